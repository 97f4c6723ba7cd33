/-
  Put together out of 5 texts: Walks of package refer: decides. Walks of package refer: ends, Cancel. Walks of package refer: Service. Walks of the laws of refer: New. Walks of the laws of refer: the document's answers.
-/
import Derived.Test.YtjjfimbihdoknaaGreatReferConfirmsB5
namespace Go.Al
open Go Go.RowKit Go.Proofs
set_option maxRecDepth 10000 in
set_option maxHeartbeats 1000000 in
theorem decides_spec (H : Nat → Prop) (r g : Nat) (ts : List Trk) (rs : List Rfm) (x : Rfm) (y : Tly) (iss now : Int) (w : World) (hR : Rfr H w r g ts rs) (htr : 0 ≤ x.track ∧ x.track < ts.length) : Calls Tryz.prog 50 #[pt r, .agg x.cells.toArray, .agg y.cells.toArray, nt iss, nt now] w fun e w' => e = .returned (.tuple #[.agg (decY ts x y iss now).cells.toArray, nt (decE ts x y iss now)]) ∧ Keep none_ w w' := by
 have hHlt := Rfr.lt hR
 have hrH := Rfr.at_ hR
 have hgH := Rfr.atg hR
 have hrlt := hHlt _ hrH
 have hglt := hHlt _ hgH
 have hin := Rfr.inn hR
 obtain ⟨A, cap, hr, hA, hAo, hrg⟩ := Rfr.parts hR
 have hAlt := SlT.lt hA
 have hAr : ∀ q, inA A q → q ≠ r ∧ q ≠ g ∧ q < w.heap.size := fun q hq => ⟨(hAo q hq).2.1, (hAo q hq).2.2, hAlt q hq⟩
 have hgo : ∀ q, only g q → q ≠ r ∧ q = g := fun q hq => ⟨fun e => hrg (e.symm.trans hq), hq⟩
 have hgl : ∀ q, only g q → q < w.heap.size := fun q hq => by rw [show q = g from hq]; exact hglt
 have hHo : ∀ q, H q → 0 ≤ q := fun q _ => Nat.zero_le q
 have htl := hin.tl
 have hrl := hin.rl
 obtain ⟨jt, hjt, hjl, htk, htm⟩ := trkA_at htr
 have hokt := hin.tok _ htm
 have hK0 : Keep none_ w w := Keep.refl _ _
 have hzhK0 := Keep.size hK0
 refine enterM Tryz.func50 rfl [pt r, .agg (Rfm.cells x).toArray, .agg (Tly.cells y).toArray, nt iss, nt now] 77 rfl rfl rfl ?_
 refine V_pick [(0, pt r), (1, .agg (Rfm.cells x).toArray), (2, .agg (Tly.cells y).toArray), (3, nt iss), (4, nt now)] rfl ?_
 refine Vr ?_
 refine OI_box 57 (.tmp 1) (.agg (Rfm.cells x).toArray) (Rfm.cells x) (some 6) (by kernel_rfl) (by kernel_rfl) rfl ?_
 intro b1 w1 e1 hb1 k1 z1
 have hsz2 := Keep.size k1
 replace hr := hr.k0 k1
 replace hA := hA.keep0 k1
 replace hR := hR.keep k1 nk
 replace hK0 := hK0.tn k1
 have hb1lt := hb1.lt
 refine OI_box 55 (.tmp 2) (.agg (Tly.cells y).toArray) (Tly.cells y) (some 7) (by kernel_rfl) (by kernel_rfl) rfl ?_
 intro b3 w3 e3 hb3 k3 z3
 have hsz4 := Keep.size k3
 replace hr := hr.k0 k3
 replace hb1 := hb1.k0 k3
 replace hA := hA.keep0 k3
 replace hR := hR.keep k3 nk
 replace hK0 := hK0.tn k3
 have hb3lt := hb3.lt
 refine OI_alloc 57 (.agg (Rfm.cells Rfm.zero).toArray) (Rfm.cells Rfm.zero) (some 10) (by kernel_rfl) (by kernel_rfl) (by kernel_rfl) ?_
 intro b5 w5 e5 hb5 k5 z5
 have hsz6 := Keep.size k5
 replace hr := hr.k0 k5
 replace hb1 := hb1.k0 k5
 replace hb3 := hb3.k0 k5
 replace hA := hA.keep0 k5
 replace hR := hR.keep k5 nk
 replace hK0 := hK0.tn k5
 have hb5lt := hb5.lt
 refine On 4 [0, 3, 4, 6, 7, 10] ?_
 refine Oe ?_
 refine V_seq ?_
 refine Vr ?_
 refine On 1 [0, 3, 4, 6, 7, 10, 13] ?_
 refine Oc 3 (.tmp 13) 39 (nt x.since) (some 14) hb1 rfl ?_
 refine Ose [(0, pt r), (3, nt iss), (4, nt now), (6, pt b1), (7, pt b3), (10, pt b5), (15, .bool (decide (x.since = -1)))] ?_
 refine V_if (x.since = -1) (by kernel_rfl) (fun hc7 => ?_) (fun hc7 => ?_)
 ·
  refine V_seq ?_
  refine Vr ?_
  refine On 2 [6, 10, 16, 17] ?_
  refine Oc 3 (.tmp 17) 35 (nt x.sub) (some 18) hb1 rfl ?_
  refine Ose [(6, pt b1), (10, pt b5), (20, .bool (decide (IntKind.i64.wrap (now - x.sub) ≥ 30)))] ?_
  refine V_if (IntKind.i64.wrap (now - x.sub) ≥ 30) (by kernel_rfl) (fun hc8 => ?_) (fun hc8 => ?_)
  ·
   refine Vr ?_
   refine Oa 57 (.tmp 6) 0 (Rfm.cells x) (some 21) 45 hb1 (take_all (Rfm.len _)) (Rfm.len _) ?_
   refine Otg 57 (.tmp 10) (.tmp 21) 0 (Rfm.cells x) hb5 (Rfm.len _) (Rfm.one _) ?_
   intro w9 hb5_12 hk10 hz11
   replace hb5_12 : Blk w9 b5 (Rfm.cells x) 57 := (Blk.eqL (Rfm.over _ _) hb5_12)
   have hsz13 := Keep.size hk10
   replace hr := hr.k1 hk10
   replace hb1 := hb1.k1 hk10
   replace hb3 := hb3.k1 hk10
   replace hA := hA.keep hk10 (fun q hq hs => by have hs : q = b5 := hs; have g0 := hAr q hq; have g1 := hAlt q hq; omega)
   replace hR := hR.keep hk10 (fun q hq hs => by have hs : q = b5 := hs; have g0 := hHo q hq; have g1 := hHlt q hq; omega)
   replace hK0 := Keep.fr hK0 hk10
   refine Ose [(10, pt b5), (11, nt 4)] ?_
   refine V_ret ?_
   refine X_ret_then ?_
   refine X_ret_then ?_
   have hY : decY ts x y iss now = x := by unfold decY; rw [if_pos hc7]
   have hE : decE ts x y iss now = 4 := by unfold decE; rw [if_pos hc7, if_pos hc8]
   exact leave0 (.tuple #[.agg (Rfm.cells x).toArray, nt 4]) (.inl rfl) (res_agg_tmp (m := 45) rfl rfl rfl (by kernel_rfl) hb5_12 rfl) ⟨by rw [hY, hE] <;> rfl, hK0⟩
  refine V_skip ?_
  refine X_then ?_
  refine Vr ?_
  refine Oa 57 (.tmp 6) 0 (Rfm.cells x) (some 22) 45 hb1 (take_all (Rfm.len _)) (Rfm.len _) ?_
  refine Otg 57 (.tmp 10) (.tmp 22) 0 (Rfm.cells x) hb5 (Rfm.len _) (Rfm.one _) ?_
  intro w14 hb5_17 hk15 hz16
  replace hb5_17 : Blk w14 b5 (Rfm.cells x) 57 := (Blk.eqL (Rfm.over _ _) hb5_17)
  have hsz18 := Keep.size hk15
  replace hr := hr.k1 hk15
  replace hb1 := hb1.k1 hk15
  replace hb3 := hb3.k1 hk15
  replace hA := hA.keep hk15 (fun q hq hs => by have hs : q = b5 := hs; have g0 := hAr q hq; have g1 := hAlt q hq; omega)
  replace hR := hR.keep hk15 (fun q hq hs => by have hs : q = b5 := hs; have g0 := hHo q hq; have g1 := hHlt q hq; omega)
  replace hK0 := Keep.fr hK0 hk15
  refine Ose [(10, pt b5), (11, nt 0)] ?_
  refine V_ret ?_
  refine X_ret_then ?_
  have hY : decY ts x y iss now = x := by unfold decY; rw [if_pos hc7]
  have hE : decE ts x y iss now = 0 := by unfold decE; rw [if_pos hc7, if_neg hc8]
  exact leave0 (.tuple #[.agg (Rfm.cells x).toArray, nt 0]) (.inl rfl) (res_agg_tmp (m := 45) rfl rfl rfl (by kernel_rfl) hb5_17 rfl) ⟨by rw [hY, hE] <;> rfl, hK0⟩
 refine V_skip ?_
 refine X_then ?_
 refine V_seq ?_
 refine V_draws (acts [8, 9]) none_ [[8, 0, 1, 2, 3, 4, 5, 6, 7, 9]] (by kernel_rfl) (by repeat first | exact (by first | exact sure_postM | exact sure_rQ2 | exact sure_no) | refine sure_then ?_ | refine sure_block ?_ | refine sure_join ?_) (by kernel_rfl) ?_
 intro w20 hk19 he21 L hL22
 have hsz23 := Keep.size hk19
 replace hr := hr.k0 hk19
 replace hb1 := hb1.k0 hk19
 replace hb3 := hb3.k0 hk19
 replace hb5 := hb5.k0 hk19
 replace hA := hA.keep0 hk19
 replace hR := hR.keep hk19 nk
 replace hK0 := hK0.tn hk19
 have qhr := hr
 have qhb1 := hb1
 have qhb3 := hb3
 have qhb5 := hb5
 have qhA := hA
 have K24 : Keep none_ w20 w20 := Keep.refl _ _
 obtain rfl := List.mem_singleton.1 hL22
 refine GI_alloc 27 (.agg (Trk.cells Trk.zero).toArray) (Trk.cells Trk.zero) (some 12) (by kernel_rfl) (by kernel_rfl) K24 (by kernel_rfl) (by kernel_rfl) ?_
 intro b25 w25 e25 hb25 k25 z25 K26
 have hsz27 := Keep.size k25
 replace hr := hr.k0 k25
 replace hb1 := hb1.k0 k25
 replace hb3 := hb3.k0 k25
 replace hb5 := hb5.k0 k25
 replace hA := hA.keep0 k25
 replace hR := hR.keep k25 nk
 replace hK0 := hK0.tn k25
 have hb25lt := hb25.lt
 refine Gn [3, 4, 5, 6, 7, 9] [3, 4, 6, 7, 10, 12, 25] ?_
 refine Gc0 29 (.tmp 25) 0 (.slice A ts.length cap) (some 26) qhr rfl ?_
 refine Gn [5, 6, 7, 9] [3, 4, 6, 7, 10, 12, 26, 27] ?_
 refine Gc0 3 (.tmp 27) 1 (nt x.track) (some 28) qhb1 rfl ?_
 obtain ⟨b28, o28, L28, T28, rfl, hat28⟩ := SlT.open_ hA (by first | omega | (simp only [List.length_map]; omega) | (simp; done) | (simp; omega))
 have hb28lt := hat28.blk.lt
 have hob29 := hAr b28 ⟨_, rfl, rfl⟩
 have hob30 := hAlt b28 ⟨_, rfl, rfl⟩
 obtain ⟨qL28, qT28, qhat28⟩ := SlT.openA qhA (by first | omega | (simp; done) | (simp; omega))
 refine Gp_ [(3, nt iss), (4, nt now), (6, pt b1), (7, pt b3), (10, pt b5), (12, pt b25), (26, sl_ b28 o28 ts.length cap), (28, nt x.track)] ?_
 refine GI_eq [(3, nt iss), (4, nt now), (6, pt b1), (7, pt b3), (10, pt b5), (12, pt b25), (26, sl_ b28 o28 ts.length cap), (28, nt (jt : Int))] (by rw [hjt]) ?_
 refine GI_pure (some 29) (.indexAddr 29 (.tmp 26) (.tmp 28)) (by kernel_rfl) (by kernel_rfl) (pure_idxN (b := b28) (o := o28) (len := ts.length) (cap := cap) (kd := .i64) (j := jt) (E := 27) (sz := 18) (by_ := 144) (by kernel_rfl) (by kernel_rfl) (by kernel_rfl) (by omega)) ?_
 refine Ga 27 (.tmp 29) (o28 + jt * 18) (Trk.cells (trkA ts x.track)) (some 30) 18 qhat28.blk id (At.elem' qhat28 (es_at htk)) (At.len qhat28 (es_at htk)) ?_
 refine GI_final 9 (by kernel_rfl) (by kernel_rfl) ?_
 refine Otg 27 (.tmp 12) (.tmp 30) 0 (Trk.cells (trkA ts x.track)) hb25 (Trk.len _) (Trk.one _) ?_
 intro w31 hb25_34 hk32 hz33
 replace hb25_34 : Blk w31 b25 (Trk.cells (trkA ts x.track)) 27 := (Blk.eqL (Trk.over _ _) hb25_34)
 have hsz35 := Keep.size hk32
 replace hr := hr.k1 hk32
 replace hb1 := hb1.k1 hk32
 replace hb3 := hb3.k1 hk32
 replace hb5 := hb5.k1 hk32
 replace hat28 := hat28.keep hk32 (by show ¬ (_ = _); omega)
 replace hR := hR.keep hk32 (fun q hq hs => by have hs : q = b25 := hs; have g0 := hHo q hq; have g1 := hHlt q hq; omega)
 replace hK0 := Keep.fr hK0 hk32
 refine Oe ?_
 refine V_seq ?_
 refine V_block ?_
 refine Vr ?_
 refine Oa 27 (.tmp 12) 0 (Trk.cells (trkA ts x.track)) (some 32) 18 hb25_34 (take_all (Trk.len _)) (Trk.len _) ?_
 refine Oa 55 (.tmp 7) 0 (Tly.cells y) (some 33) 3 hb3 (take_all (Tly.len _)) (Tly.len _) ?_
 refine On 5 [4, 6, 10, 12, 32, 33, 34, 35, 36] ?_
 refine Oc 3 (.tmp 36) 39 (nt x.since) (some 37) hb1 rfl ?_
 refine On 7 [4, 6, 10, 12, 32, 33, 34, 38] ?_
 refine Ok (kl 104 #[(.tmp 32), (.tmp 33), (.tmp 34), (.tmp 38)] #[27, 55, 3, 3]) 104 #[.agg (Trk.cells (trkA ts x.track)).toArray, .agg (Tly.cells y).toArray, nt iss, nt (IntKind.i64.wrap (now - x.since))] (some 39) (passing_spec (trkA ts x.track) y iss (IntKind.i64.wrap (now - x.since)) _ (hokt.2.2.2.2.2.2.2.1) (hokt.2.2.2.2.2.2.2.2.1)) ?_
 rintro _ w36 ⟨rfl, hk37⟩
 refine ⟨_, rfl, ?_⟩
 have hsz38 := Keep.size hk37
 replace hr := hr.k0 hk37
 replace hb1 := hb1.k0 hk37
 replace hb3 := hb3.k0 hk37
 replace hb5 := hb5.k0 hk37
 replace hb25_34 := hb25_34.k0 hk37
 replace hat28 := hat28.keep hk37 id
 replace hR := hR.keep hk37 nk
 replace hK0 := hK0.tn hk37
 refine Ose [(4, nt now), (6, pt b1), (10, pt b5), (12, pt b25), (31, .bool (!(passB (trkA ts x.track) y iss (IntKind.i64.wrap (now - x.since)))))] ?_
 refine V_ifb (!(passB (trkA ts x.track) y iss (IntKind.i64.wrap (now - x.since)))) (by kernel_rfl) (fun hc39 => ?_) (fun hc39 => ?_)
 ·
  refine V_region ?_
  refine Os 1 [(4, nt now), (6, pt b1), (10, pt b5), (12, pt b25), (41, po_ b1 40)] ?_
  refine Ot 3 (.tmp 41) (.const (Value.int IntKind.i64 (-1))) 40 (nt (-1)) hb1 ?_
  intro w40 hb1_43 hk41 hz42
  replace hb1_43 : Blk w40 b1 (Rfm.cells { x with till := -1 }) 57 := (Blk.eqL (by kernel_rfl) hb1_43)
  have hsz44 := Keep.size hk41
  replace hr := hr.k1 hk41
  replace hb3 := hb3.k1 hk41
  replace hb5 := hb5.k1 hk41
  replace hb25_34 := hb25_34.k1 hk41
  replace hat28 := hat28.keep hk41 (by show ¬ (_ = _); omega)
  replace hR := hR.keep hk41 (fun q hq hs => by have hs : q = b1 := hs; have g0 := hHo q hq; have g1 := hHlt q hq; omega)
  replace hK0 := Keep.fr hK0 hk41
  refine OI_end rfl ?_
  refine X_block ?_
  refine X_then ?_
  refine V_seq ?_
  refine V_block ?_
  refine Vr ?_
  refine On 1 [4, 6, 10, 12, 52] ?_
  refine Oc 3 (.tmp 52) 40 (nt (-1)) (some 53) hb1_43 rfl ?_
  refine Ose [(4, nt now), (6, pt b1), (10, pt b5), (12, pt b25), (51, .bool false)] ?_
  refine V_false rfl ?_
  refine Vr ?_
  refine On 1 [4, 6, 10, 12, 63] ?_
  refine Oc 3 (.tmp 63) 40 (nt (-1)) (some 64) hb1_43 rfl ?_
  refine On 6 [6, 10, 12, 66, 67, 68] ?_
  refine Oc 3 (.tmp 68) 39 (nt x.since) (some 69) hb1_43 rfl ?_
  refine On 9 [6, 10, 66, 70, 71] ?_
  refine Oc 3 (.tmp 71) 3 (nt ((trkA ts x.track).decision)) (some 72) hb25_34 rfl ?_
  refine Ose [(6, pt b1), (10, pt b5), (62, .bool (decide (IntKind.i64.wrap (now - x.since) ≥ (trkA ts x.track).decision)))] ?_
  refine V_if (IntKind.i64.wrap (now - x.since) ≥ (trkA ts x.track).decision) (by kernel_rfl) (fun hc45 => ?_) (fun hc45 => ?_)
  ·
   refine Vr ?_
   refine Oa 57 (.tmp 6) 0 (Rfm.cells { x with till := -1 }) (some 75) 45 hb1_43 (take_all (Rfm.len _)) (Rfm.len _) ?_
   refine Otg 57 (.tmp 10) (.tmp 75) 0 (Rfm.cells { x with till := -1 }) hb5 (Rfm.len _) (Rfm.one _) ?_
   intro w46 hb5_49 hk47 hz48
   replace hb5_49 : Blk w46 b5 (Rfm.cells ({ x with till := -1 })) 57 := (Blk.eqL (Rfm.over _ _) hb5_49)
   have hsz50 := Keep.size hk47
   replace hr := hr.k1 hk47
   replace hb1_43 := hb1_43.k1 hk47
   replace hb3 := hb3.k1 hk47
   replace hb25_34 := hb25_34.k1 hk47
   replace hat28 := hat28.keep hk47 (by show ¬ (_ = _); omega)
   replace hR := hR.keep hk47 (fun q hq hs => by have hs : q = b5 := hs; have g0 := hHo q hq; have g1 := hHlt q hq; omega)
   replace hK0 := Keep.fr hK0 hk47
   refine Ose [(10, pt b5), (11, nt 3)] ?_
   refine V_ret ?_
   refine X_ret_block ?_
   refine X_ret_then ?_
   have hu : tillI ts x y iss now = -1 := by unfold tillI; rw [if_pos (by simpa using hc39)]
   have hw1 : w64 (now - x.since) = IntKind.i64.wrap (now - x.since) := rfl
   have hw2 : w64 (now + (trkA ts x.track).confirm) = IntKind.i64.wrap (now + (trkA ts x.track).confirm) := rfl
   have hY : decY ts x y iss now = { x with till := -1 } := by unfold decY; rw [if_neg hc7, hu]
   have hE : decE ts x y iss now = 3 := by unfold decE; rw [if_neg hc7, hu]; (repeat' split) <;> first | rfl | (exfalso; omega)
   exact leave0 (.tuple #[.agg (Rfm.cells ({ x with till := -1 })).toArray, nt 3]) (.inl rfl) (res_agg_tmp (m := 45) rfl rfl rfl (by kernel_rfl) hb5_49 rfl) ⟨by rw [hY, hE] <;> rfl, hK0⟩
  refine V_skip ?_
  refine X_block ?_
  refine X_then ?_
  refine Vr ?_
  refine Oa 57 (.tmp 6) 0 (Rfm.cells { x with till := -1 }) (some 76) 45 hb1_43 (take_all (Rfm.len _)) (Rfm.len _) ?_
  refine Otg 57 (.tmp 10) (.tmp 76) 0 (Rfm.cells { x with till := -1 }) hb5 (Rfm.len _) (Rfm.one _) ?_
  intro w51 hb5_54 hk52 hz53
  replace hb5_54 : Blk w51 b5 (Rfm.cells ({ x with till := -1 })) 57 := (Blk.eqL (Rfm.over _ _) hb5_54)
  have hsz55 := Keep.size hk52
  replace hr := hr.k1 hk52
  replace hb1_43 := hb1_43.k1 hk52
  replace hb3 := hb3.k1 hk52
  replace hb25_34 := hb25_34.k1 hk52
  replace hat28 := hat28.keep hk52 (by show ¬ (_ = _); omega)
  replace hR := hR.keep hk52 (fun q hq hs => by have hs : q = b5 := hs; have g0 := hHo q hq; have g1 := hHlt q hq; omega)
  replace hK0 := Keep.fr hK0 hk52
  refine Ose [(10, pt b5), (11, nt 0)] ?_
  refine V_ret ?_
  have hu : tillI ts x y iss now = -1 := by unfold tillI; rw [if_pos (by simpa using hc39)]
  have hw1 : w64 (now - x.since) = IntKind.i64.wrap (now - x.since) := rfl
  have hw2 : w64 (now + (trkA ts x.track).confirm) = IntKind.i64.wrap (now + (trkA ts x.track).confirm) := rfl
  have hY : decY ts x y iss now = { x with till := -1 } := by unfold decY; rw [if_neg hc7, hu]
  have hE : decE ts x y iss now = 0 := by unfold decE; rw [if_neg hc7, hu]; (repeat' split) <;> first | rfl | (exfalso; omega)
  exact leave0 (.tuple #[.agg (Rfm.cells ({ x with till := -1 })).toArray, nt 0]) (.inl rfl) (res_agg_tmp (m := 45) rfl rfl rfl (by kernel_rfl) hb5_54 rfl) ⟨by rw [hY, hE] <;> rfl, hK0⟩
 refine Vr ?_
 refine On 1 [4, 6, 10, 12, 43] ?_
 refine Oc 3 (.tmp 43) 40 (nt x.till) (some 44) hb1 rfl ?_
 refine Ose [(4, nt now), (6, pt b1), (10, pt b5), (12, pt b25), (42, .bool (decide (x.till = -1)))] ?_
 refine V_if (x.till = -1) (by kernel_rfl) (fun hc56 => ?_) (fun hc56 => ?_)
 ·
  refine V_region ?_
  refine On 2 [4, 6, 10, 12, 46, 47] ?_
  refine Oc 3 (.tmp 47) 4 (nt ((trkA ts x.track).confirm)) (some 48) hb25_34 rfl ?_
  refine Os 5 [(4, nt now), (6, pt b1), (10, pt b5), (12, pt b25), (49, nt (IntKind.i64.wrap (now + ((trkA ts x.track).confirm)))), (50, po_ b1 40)] ?_
  refine Ot 3 (.tmp 50) (.tmp 49) 40 (nt (IntKind.i64.wrap (now + ((trkA ts x.track).confirm)))) hb1 ?_
  intro w57 hb1_60 hk58 hz59
  replace hb1_60 : Blk w57 b1 (Rfm.cells { x with till := IntKind.i64.wrap (now + ((trkA ts x.track).confirm)) }) 57 := (Blk.eqL (by kernel_rfl) hb1_60)
  have hsz61 := Keep.size hk58
  replace hr := hr.k1 hk58
  replace hb3 := hb3.k1 hk58
  replace hb5 := hb5.k1 hk58
  replace hb25_34 := hb25_34.k1 hk58
  replace hat28 := hat28.keep hk58 (by show ¬ (_ = _); omega)
  replace hR := hR.keep hk58 (fun q hq hs => by have hs : q = b1 := hs; have g0 := hHo q hq; have g1 := hHlt q hq; omega)
  replace hK0 := Keep.fr hK0 hk58
  refine OI_end rfl ?_
  refine X_block ?_
  refine X_then ?_
  refine V_seq ?_
  refine V_block ?_
  refine Vr ?_
  refine On 1 [4, 6, 10, 12, 52] ?_
  refine Oc 3 (.tmp 52) 40 (nt (IntKind.i64.wrap (now + ((trkA ts x.track).confirm)))) (some 53) hb1_60 rfl ?_
  refine Os 4 [(4, nt now), (6, pt b1), (10, pt b5), (12, pt b25), (55, .bool (!(decide (IntKind.i64.wrap (now + ((trkA ts x.track).confirm)) = -1))))] ?_
  by_cases hg62 : IntKind.i64.wrap (now + ((trkA ts x.track).confirm)) = -1
  ·
   refine OI_eq [(4, nt now), (6, pt b1), (10, pt b5), (12, pt b25), (55, .bool false)] (by first | simp [hg62] | rfl) ?_
   refine Ose [(4, nt now), (6, pt b1), (10, pt b5), (12, pt b25), (51, .bool false)] ?_
   refine V_false rfl ?_
   refine Vr ?_
   refine On 1 [4, 6, 10, 12, 63] ?_
   refine Oc 3 (.tmp 63) 40 (nt (IntKind.i64.wrap (now + ((trkA ts x.track).confirm)))) (some 64) hb1_60 rfl ?_
   refine Os 4 [(4, nt now), (6, pt b1), (10, pt b5), (12, pt b25), (66, .bool (decide (IntKind.i64.wrap (now + ((trkA ts x.track).confirm)) = -1)))] ?_
   refine Oq (u := .bool (decide (IntKind.i64.wrap (now + ((trkA ts x.track).confirm)) = -1))) (v := .bool true) 66 (by rw [decide_eq_true hg62]) ?_
   refine On 6 [6, 10, 12, 66, 67, 68] ?_
   refine Oc 3 (.tmp 68) 39 (nt x.since) (some 69) hb1_60 rfl ?_
   refine On 9 [6, 10, 66, 70, 71] ?_
   refine Oc 3 (.tmp 71) 3 (nt ((trkA ts x.track).decision)) (some 72) hb25_34 rfl ?_
   refine Ose [(6, pt b1), (10, pt b5), (62, .bool (decide (IntKind.i64.wrap (now - x.since) ≥ (trkA ts x.track).decision)))] ?_
   refine V_if (IntKind.i64.wrap (now - x.since) ≥ (trkA ts x.track).decision) (by kernel_rfl) (fun hc64 => ?_) (fun hc64 => ?_)
   ·
    refine Vr ?_
    refine Oa 57 (.tmp 6) 0 (Rfm.cells { x with till := IntKind.i64.wrap (now + ((trkA ts x.track).confirm)) }) (some 75) 45 hb1_60 (take_all (Rfm.len _)) (Rfm.len _) ?_
    refine Otg 57 (.tmp 10) (.tmp 75) 0 (Rfm.cells { x with till := IntKind.i64.wrap (now + ((trkA ts x.track).confirm)) }) hb5 (Rfm.len _) (Rfm.one _) ?_
    intro w65 hb5_68 hk66 hz67
    replace hb5_68 : Blk w65 b5 (Rfm.cells ({ x with till := IntKind.i64.wrap (now + ((trkA ts x.track).confirm)) })) 57 := (Blk.eqL (Rfm.over _ _) hb5_68)
    have hsz69 := Keep.size hk66
    replace hr := hr.k1 hk66
    replace hb1_60 := hb1_60.k1 hk66
    replace hb3 := hb3.k1 hk66
    replace hb25_34 := hb25_34.k1 hk66
    replace hat28 := hat28.keep hk66 (by show ¬ (_ = _); omega)
    replace hR := hR.keep hk66 (fun q hq hs => by have hs : q = b5 := hs; have g0 := hHo q hq; have g1 := hHlt q hq; omega)
    replace hK0 := Keep.fr hK0 hk66
    refine Ose [(10, pt b5), (11, nt 3)] ?_
    refine V_ret ?_
    refine X_ret_block ?_
    refine X_ret_then ?_
    have hpb : ¬ passB (trkA ts x.track) y iss (w64 (now - x.since)) = false := by simpa using hc39
    have hu : tillI ts x y iss now = w64 (now + (trkA ts x.track).confirm) := by unfold tillI; rw [if_neg hpb, if_pos hc56]
    have hw1 : w64 (now - x.since) = IntKind.i64.wrap (now - x.since) := rfl
    have hw2 : w64 (now + (trkA ts x.track).confirm) = IntKind.i64.wrap (now + (trkA ts x.track).confirm) := rfl
    have hY : decY ts x y iss now = { x with till := w64 (now + (trkA ts x.track).confirm) } := by unfold decY; rw [if_neg hc7, hu]
    have hE : decE ts x y iss now = 3 := by unfold decE; rw [if_neg hc7, hu]; (repeat' split) <;> first | rfl | (exfalso; omega)
    exact leave0 (.tuple #[.agg (Rfm.cells ({ x with till := IntKind.i64.wrap (now + ((trkA ts x.track).confirm)) })).toArray, nt 3]) (.inl rfl) (res_agg_tmp (m := 45) rfl rfl rfl (by kernel_rfl) hb5_68 rfl) ⟨by rw [hY, hE] <;> rfl, hK0⟩
   refine V_skip ?_
   refine X_block ?_
   refine X_then ?_
   refine Vr ?_
   refine Oa 57 (.tmp 6) 0 (Rfm.cells { x with till := IntKind.i64.wrap (now + ((trkA ts x.track).confirm)) }) (some 76) 45 hb1_60 (take_all (Rfm.len _)) (Rfm.len _) ?_
   refine Otg 57 (.tmp 10) (.tmp 76) 0 (Rfm.cells { x with till := IntKind.i64.wrap (now + ((trkA ts x.track).confirm)) }) hb5 (Rfm.len _) (Rfm.one _) ?_
   intro w70 hb5_73 hk71 hz72
   replace hb5_73 : Blk w70 b5 (Rfm.cells ({ x with till := IntKind.i64.wrap (now + ((trkA ts x.track).confirm)) })) 57 := (Blk.eqL (Rfm.over _ _) hb5_73)
   have hsz74 := Keep.size hk71
   replace hr := hr.k1 hk71
   replace hb1_60 := hb1_60.k1 hk71
   replace hb3 := hb3.k1 hk71
   replace hb25_34 := hb25_34.k1 hk71
   replace hat28 := hat28.keep hk71 (by show ¬ (_ = _); omega)
   replace hR := hR.keep hk71 (fun q hq hs => by have hs : q = b5 := hs; have g0 := hHo q hq; have g1 := hHlt q hq; omega)
   replace hK0 := Keep.fr hK0 hk71
   refine Ose [(10, pt b5), (11, nt 0)] ?_
   refine V_ret ?_
   have hpb : ¬ passB (trkA ts x.track) y iss (w64 (now - x.since)) = false := by simpa using hc39
   have hu : tillI ts x y iss now = w64 (now + (trkA ts x.track).confirm) := by unfold tillI; rw [if_neg hpb, if_pos hc56]
   have hw1 : w64 (now - x.since) = IntKind.i64.wrap (now - x.since) := rfl
   have hw2 : w64 (now + (trkA ts x.track).confirm) = IntKind.i64.wrap (now + (trkA ts x.track).confirm) := rfl
   have hY : decY ts x y iss now = { x with till := w64 (now + (trkA ts x.track).confirm) } := by unfold decY; rw [if_neg hc7, hu]
   have hE : decE ts x y iss now = 0 := by unfold decE; rw [if_neg hc7, hu]; (repeat' split) <;> first | rfl | (exfalso; omega)
   exact leave0 (.tuple #[.agg (Rfm.cells ({ x with till := IntKind.i64.wrap (now + ((trkA ts x.track).confirm)) })).toArray, nt 0]) (.inl rfl) (res_agg_tmp (m := 45) rfl rfl rfl (by kernel_rfl) hb5_73 rfl) ⟨by rw [hY, hE] <;> rfl, hK0⟩
  refine OI_eq [(4, nt now), (6, pt b1), (10, pt b5), (12, pt b25), (55, .bool true)] (by first | simp [hg62] | rfl) ?_
  refine On 5 [4, 6, 10, 12, 55, 56] ?_
  refine Oc 3 (.tmp 56) 40 (nt (IntKind.i64.wrap (now + ((trkA ts x.track).confirm)))) (some 57) hb1_60 rfl ?_
  refine Ose [(4, nt now), (6, pt b1), (10, pt b5), (12, pt b25), (51, .bool (decide (IntKind.i64.wrap (now + ((trkA ts x.track).confirm)) ≤ now)))] ?_
  refine V_if (IntKind.i64.wrap (now + ((trkA ts x.track).confirm)) ≤ now) (by kernel_rfl) (fun hc75 => ?_) (fun hc75 => ?_)
  ·
   refine Vr ?_
   refine Oa 57 (.tmp 6) 0 (Rfm.cells { x with till := IntKind.i64.wrap (now + ((trkA ts x.track).confirm)) }) (some 61) 45 hb1_60 (take_all (Rfm.len _)) (Rfm.len _) ?_
   refine Otg 57 (.tmp 10) (.tmp 61) 0 (Rfm.cells { x with till := IntKind.i64.wrap (now + ((trkA ts x.track).confirm)) }) hb5 (Rfm.len _) (Rfm.one _) ?_
   intro w76 hb5_79 hk77 hz78
   replace hb5_79 : Blk w76 b5 (Rfm.cells ({ x with till := IntKind.i64.wrap (now + ((trkA ts x.track).confirm)) })) 57 := (Blk.eqL (Rfm.over _ _) hb5_79)
   have hsz80 := Keep.size hk77
   replace hr := hr.k1 hk77
   replace hb1_60 := hb1_60.k1 hk77
   replace hb3 := hb3.k1 hk77
   replace hb25_34 := hb25_34.k1 hk77
   replace hat28 := hat28.keep hk77 (by show ¬ (_ = _); omega)
   replace hR := hR.keep hk77 (fun q hq hs => by have hs : q = b5 := hs; have g0 := hHo q hq; have g1 := hHlt q hq; omega)
   replace hK0 := Keep.fr hK0 hk77
   refine Ose [(10, pt b5), (11, nt 2)] ?_
   refine V_ret ?_
   refine X_ret_block ?_
   refine X_ret_then ?_
   have hpb : ¬ passB (trkA ts x.track) y iss (w64 (now - x.since)) = false := by simpa using hc39
   have hu : tillI ts x y iss now = w64 (now + (trkA ts x.track).confirm) := by unfold tillI; rw [if_neg hpb, if_pos hc56]
   have hw1 : w64 (now - x.since) = IntKind.i64.wrap (now - x.since) := rfl
   have hw2 : w64 (now + (trkA ts x.track).confirm) = IntKind.i64.wrap (now + (trkA ts x.track).confirm) := rfl
   have hY : decY ts x y iss now = { x with till := w64 (now + (trkA ts x.track).confirm) } := by unfold decY; rw [if_neg hc7, hu]
   have hE : decE ts x y iss now = 2 := by unfold decE; rw [if_neg hc7, hu]; (repeat' split) <;> first | rfl | (exfalso; omega)
   exact leave0 (.tuple #[.agg (Rfm.cells ({ x with till := IntKind.i64.wrap (now + ((trkA ts x.track).confirm)) })).toArray, nt 2]) (.inl rfl) (res_agg_tmp (m := 45) rfl rfl rfl (by kernel_rfl) hb5_79 rfl) ⟨by rw [hY, hE] <;> rfl, hK0⟩
  refine Vr ?_
  refine On 1 [4, 6, 10, 12, 63] ?_
  refine Oc 3 (.tmp 63) 40 (nt (IntKind.i64.wrap (now + ((trkA ts x.track).confirm)))) (some 64) hb1_60 rfl ?_
  refine Os 4 [(4, nt now), (6, pt b1), (10, pt b5), (12, pt b25), (66, .bool (decide (IntKind.i64.wrap (now + ((trkA ts x.track).confirm)) = -1)))] ?_
  refine Oq (u := .bool (decide (IntKind.i64.wrap (now + ((trkA ts x.track).confirm)) = -1))) (v := .bool false) 66 (by rw [decide_eq_false hg62]) ?_
  refine Ose [(6, pt b1), (10, pt b5), (62, .bool false)] ?_
  refine V_false rfl ?_
  refine V_skip ?_
  refine X_block ?_
  refine X_then ?_
  refine Vr ?_
  refine Oa 57 (.tmp 6) 0 (Rfm.cells { x with till := IntKind.i64.wrap (now + ((trkA ts x.track).confirm)) }) (some 76) 45 hb1_60 (take_all (Rfm.len _)) (Rfm.len _) ?_
  refine Otg 57 (.tmp 10) (.tmp 76) 0 (Rfm.cells { x with till := IntKind.i64.wrap (now + ((trkA ts x.track).confirm)) }) hb5 (Rfm.len _) (Rfm.one _) ?_
  intro w82 hb5_85 hk83 hz84
  replace hb5_85 : Blk w82 b5 (Rfm.cells ({ x with till := IntKind.i64.wrap (now + ((trkA ts x.track).confirm)) })) 57 := (Blk.eqL (Rfm.over _ _) hb5_85)
  have hsz86 := Keep.size hk83
  replace hr := hr.k1 hk83
  replace hb1_60 := hb1_60.k1 hk83
  replace hb3 := hb3.k1 hk83
  replace hb25_34 := hb25_34.k1 hk83
  replace hat28 := hat28.keep hk83 (by show ¬ (_ = _); omega)
  replace hR := hR.keep hk83 (fun q hq hs => by have hs : q = b5 := hs; have g0 := hHo q hq; have g1 := hHlt q hq; omega)
  replace hK0 := Keep.fr hK0 hk83
  refine Ose [(10, pt b5), (11, nt 0)] ?_
  refine V_ret ?_
  have hpb : ¬ passB (trkA ts x.track) y iss (w64 (now - x.since)) = false := by simpa using hc39
  have hu : tillI ts x y iss now = w64 (now + (trkA ts x.track).confirm) := by unfold tillI; rw [if_neg hpb, if_pos hc56]
  have hw1 : w64 (now - x.since) = IntKind.i64.wrap (now - x.since) := rfl
  have hw2 : w64 (now + (trkA ts x.track).confirm) = IntKind.i64.wrap (now + (trkA ts x.track).confirm) := rfl
  have hY : decY ts x y iss now = { x with till := w64 (now + (trkA ts x.track).confirm) } := by unfold decY; rw [if_neg hc7, hu]
  have hE : decE ts x y iss now = 0 := by unfold decE; rw [if_neg hc7, hu]; (repeat' split) <;> first | rfl | (exfalso; omega)
  exact leave0 (.tuple #[.agg (Rfm.cells ({ x with till := IntKind.i64.wrap (now + ((trkA ts x.track).confirm)) })).toArray, nt 0]) (.inl rfl) (res_agg_tmp (m := 45) rfl rfl rfl (by kernel_rfl) hb5_85 rfl) ⟨by rw [hY, hE] <;> rfl, hK0⟩
 refine V_skip ?_
 refine X_block ?_
 refine X_then ?_
 refine V_seq ?_
 refine V_block ?_
 refine Vr ?_
 refine On 1 [4, 6, 10, 12, 52] ?_
 refine Oc 3 (.tmp 52) 40 (nt x.till) (some 53) hb1 rfl ?_
 refine Os 4 [(4, nt now), (6, pt b1), (10, pt b5), (12, pt b25), (55, .bool (!(decide (x.till = -1))))] ?_
 refine Oq (u := .bool (!(decide (x.till = -1)))) (v := .bool true) 55 (by rw [decide_eq_false hc56]; rfl) ?_
 refine On 5 [4, 6, 10, 12, 55, 56] ?_
 refine Oc 3 (.tmp 56) 40 (nt x.till) (some 57) hb1 rfl ?_
 refine Ose [(4, nt now), (6, pt b1), (10, pt b5), (12, pt b25), (51, .bool (decide (x.till ≤ now)))] ?_
 refine V_if (x.till ≤ now) (by kernel_rfl) (fun hc88 => ?_) (fun hc88 => ?_)
 ·
  refine Vr ?_
  refine Oa 57 (.tmp 6) 0 (Rfm.cells x) (some 61) 45 hb1 (take_all (Rfm.len _)) (Rfm.len _) ?_
  refine Otg 57 (.tmp 10) (.tmp 61) 0 (Rfm.cells x) hb5 (Rfm.len _) (Rfm.one _) ?_
  intro w89 hb5_92 hk90 hz91
  replace hb5_92 : Blk w89 b5 (Rfm.cells x) 57 := (Blk.eqL (Rfm.over _ _) hb5_92)
  have hsz93 := Keep.size hk90
  replace hr := hr.k1 hk90
  replace hb1 := hb1.k1 hk90
  replace hb3 := hb3.k1 hk90
  replace hb25_34 := hb25_34.k1 hk90
  replace hat28 := hat28.keep hk90 (by show ¬ (_ = _); omega)
  replace hR := hR.keep hk90 (fun q hq hs => by have hs : q = b5 := hs; have g0 := hHo q hq; have g1 := hHlt q hq; omega)
  replace hK0 := Keep.fr hK0 hk90
  refine Ose [(10, pt b5), (11, nt 2)] ?_
  refine V_ret ?_
  refine X_ret_block ?_
  refine X_ret_then ?_
  have hpb : ¬ passB (trkA ts x.track) y iss (w64 (now - x.since)) = false := by simpa using hc39
  have hu : tillI ts x y iss now = x.till := by unfold tillI; rw [if_neg hpb, if_neg hc56]
  have hw1 : w64 (now - x.since) = IntKind.i64.wrap (now - x.since) := rfl
  have hw2 : w64 (now + (trkA ts x.track).confirm) = IntKind.i64.wrap (now + (trkA ts x.track).confirm) := rfl
  have hY : decY ts x y iss now = { x with till := x.till } := by unfold decY; rw [if_neg hc7, hu]
  have hE : decE ts x y iss now = 2 := by unfold decE; rw [if_neg hc7, hu]; (repeat' split) <;> first | rfl | (exfalso; omega)
  exact leave0 (.tuple #[.agg (Rfm.cells x).toArray, nt 2]) (.inl rfl) (res_agg_tmp (m := 45) rfl rfl rfl (by kernel_rfl) hb5_92 rfl) ⟨by rw [hY, hE] <;> rfl, hK0⟩
 refine Vr ?_
 refine On 1 [4, 6, 10, 12, 63] ?_
 refine Oc 3 (.tmp 63) 40 (nt x.till) (some 64) hb1 rfl ?_
 refine Os 4 [(4, nt now), (6, pt b1), (10, pt b5), (12, pt b25), (66, .bool (decide (x.till = -1)))] ?_
 refine Oq (u := .bool (decide (x.till = -1))) (v := .bool false) 66 (by rw [decide_eq_false hc56]) ?_
 refine Ose [(6, pt b1), (10, pt b5), (62, .bool false)] ?_
 refine V_false rfl ?_
 refine V_skip ?_
 refine X_block ?_
 refine X_then ?_
 refine Vr ?_
 refine Oa 57 (.tmp 6) 0 (Rfm.cells x) (some 76) 45 hb1 (take_all (Rfm.len _)) (Rfm.len _) ?_
 refine Otg 57 (.tmp 10) (.tmp 76) 0 (Rfm.cells x) hb5 (Rfm.len _) (Rfm.one _) ?_
 intro w95 hb5_98 hk96 hz97
 replace hb5_98 : Blk w95 b5 (Rfm.cells x) 57 := (Blk.eqL (Rfm.over _ _) hb5_98)
 have hsz99 := Keep.size hk96
 replace hr := hr.k1 hk96
 replace hb1 := hb1.k1 hk96
 replace hb3 := hb3.k1 hk96
 replace hb25_34 := hb25_34.k1 hk96
 replace hat28 := hat28.keep hk96 (by show ¬ (_ = _); omega)
 replace hR := hR.keep hk96 (fun q hq hs => by have hs : q = b5 := hs; have g0 := hHo q hq; have g1 := hHlt q hq; omega)
 replace hK0 := Keep.fr hK0 hk96
 refine Ose [(10, pt b5), (11, nt 0)] ?_
 refine V_ret ?_
 have hpb : ¬ passB (trkA ts x.track) y iss (w64 (now - x.since)) = false := by simpa using hc39
 have hu : tillI ts x y iss now = x.till := by unfold tillI; rw [if_neg hpb, if_neg hc56]
 have hw1 : w64 (now - x.since) = IntKind.i64.wrap (now - x.since) := rfl
 have hw2 : w64 (now + (trkA ts x.track).confirm) = IntKind.i64.wrap (now + (trkA ts x.track).confirm) := rfl
 have hY : decY ts x y iss now = { x with till := x.till } := by unfold decY; rw [if_neg hc7, hu]
 have hE : decE ts x y iss now = 0 := by unfold decE; rw [if_neg hc7, hu]; (repeat' split) <;> first | rfl | (exfalso; omega)
 exact leave0 (.tuple #[.agg (Rfm.cells x).toArray, nt 0]) (.inl rfl) (res_agg_tmp (m := 45) rfl rfl rfl (by kernel_rfl) hb5_98 rfl) ⟨by rw [hY, hE] <;> rfl, hK0⟩
end Go.Al

namespace Go.Al
open Go Go.RowKit Go.Proofs
section
variable {xs : List Acc} {cs : List Ci} {s : VS} {ts : List Trk} {rs : List Rfm} {who of after ref now st : Int}
end
set_option maxRecDepth 10000 in
set_option maxHeartbeats 1000000 in
theorem ends_spec (H : Nat → Prop) (r g : Nat) (ts : List Trk) (rs : List Rfm) (F : Nat → Prop) (v : Nat) (s : VS) (ref st now : Int) (w : World) (hR : Rfr H w r g ts rs) (hV : VotT F w v s) (hHF : ∀ q, H q → ¬ F q) (hx : getR rs ref = some (getA rs ref)) : Calls Tryz.prog 52 #[pt r, pt v, nt ref, nt st, nt now] w fun e w' => e = .returned (.agg (Evt.mk 1 ref st).cells.toArray) ∧ (∃ H' F', Rfr H' w' r g ts (endR s rs ref st now) ∧ VotT F' w' v (closeS s ref st now) ∧ (∀ q, H' q → H q ∨ w.heap.size ≤ q) ∧ (∀ q, F' q → F q ∨ w.heap.size ≤ q) ∧ (∀ q, H' q → ¬ F' q)) ∧ Keep (fun q => q = g ∨ F q) w w' := by
 have hHlt := Rfr.lt hR
 have hrH := Rfr.at_ hR
 have hgH := Rfr.atg hR
 have hrlt := hHlt _ hrH
 have hglt := hHlt _ hgH
 have hin := Rfr.inn hR
 obtain ⟨A, cap, hr, hA, hAo, hrg⟩ := Rfr.parts hR
 have hAlt := SlT.lt hA
 have hAr : ∀ q, inA A q → q ≠ r ∧ q ≠ g ∧ q < w.heap.size := fun q hq => ⟨(hAo q hq).2.1, (hAo q hq).2.2, hAlt q hq⟩
 have hgo : ∀ q, only g q → q ≠ r ∧ q = g := fun q hq => ⟨fun e => hrg (e.symm.trans hq), hq⟩
 have hgl : ∀ q, only g q → q < w.heap.size := fun q hq => by rw [show q = g from hq]; exact hglt
 have hHo : ∀ q, H q → 0 ≤ q := fun q _ => Nat.zero_le q
 have htl := hin.tl
 have hrl := hin.rl
 have hFlt := VotT.lt hV
 have hvlt := hFlt _ (VotT.at_ hV)
 have hVr : ∀ q, F q → q ≠ r := fun q hq e => hHF r hrH (e ▸ hq)
 have hHr : ∀ q, H q → H q ∨ w.heap.size ≤ q := fun _ h => .inl h
 have hFr : ∀ q, F q → F q ∨ w.heap.size ≤ q := fun _ h => .inl h
 obtain ⟨href, htr, hrat⟩ := getA_at hin hx
 obtain ⟨jt, hjt, hjl, htk, htm⟩ := trkA_at htr
 have hokt := hin.tok _ htm
 have hdep : 0 ≤ (trkA ts (getA rs ref).track).deposit ∧ (trkA ts (getA rs ref).track).deposit ≤ 1073741824 := hokt.2.1
 have hK0 : Keep (fun q => q = g ∨ F q) w w := Keep.refl _ _
 have hzhK0 := Keep.size hK0
 refine enterM Tryz.func52 rfl [pt r, pt v, nt ref, nt st, nt now] 42 rfl rfl rfl ?_
 refine V_pick [(0, pt r), (1, pt v), (2, nt ref), (3, nt st), (4, nt now)] rfl ?_
 refine Vr ?_
 refine OI_alloc 53 (.agg #[nt 0, nt 0, nt 0]) [nt 0, nt 0, nt 0] (some 10) (by kernel_rfl) (by kernel_rfl) (by kernel_rfl) ?_
 intro b1 w1 e1 hb1 k1 z1
 have hsz2 := Keep.size k1
 replace hr := hr.k0 k1
 replace hA := hA.keep0 k1
 replace hR := hR.keep k1 nk
 replace hV := hV.keep k1 nk
 replace hK0 := hK0.tn k1
 have hb1lt := hb1.lt
 refine Oer ?_
 refine On 2 [0, 1, 2, 3, 4, 10, 14, 15] ?_
 refine Ok (kl 23 #[(.tmp 14), (.tmp 15)] #[34, 3]) 23 #[pt r, nt ref] (some 16) (rget_spec H r g ts rs ref _ hR) ?_
 rintro _ w3 ⟨rfl, hk4⟩
 refine ⟨_, rfl, ?_⟩
 have hsz5 := Keep.size hk4
 replace hr := hr.k0 hk4
 replace hb1 := hb1.k0 hk4
 replace hA := hA.keep0 hk4
 replace hR := hR.keep hk4 nk
 replace hV := hV.keep hk4 nk
 replace hK0 := hK0.tn hk4
 refine On 6 [0, 1, 2, 3, 4, 10, 17, 18] ?_
 refine OI_alloc 57 (.agg (Rfm.cells Rfm.zero).toArray) (Rfm.cells Rfm.zero) (some 11) (by kernel_rfl) (by kernel_rfl) (by kernel_rfl) ?_
 intro b6 w6 e6 hb6 k6 z6
 have hsz7 := Keep.size k6
 replace hr := hr.k0 k6
 replace hb1 := hb1.k0 k6
 replace hA := hA.keep0 k6
 replace hR := hR.keep k6 nk
 replace hV := hV.keep k6 nk
 replace hK0 := hK0.tn k6
 have hb6lt := hb6.lt
 refine Otg 57 (.tmp 11) (.tmp 17) 0 (Rfm.cells (getA rs ref)) hb6 (Rfm.len _) (Rfm.one _) ?_
 intro w8 hb6_11 hk9 hz10
 replace hb6_11 : Blk w8 b6 (Rfm.cells (getA rs ref)) 57 := (Blk.eqL (Rfm.over _ _) hb6_11)
 have hsz12 := Keep.size hk9
 replace hr := hr.k1 hk9
 replace hb1 := hb1.k1 hk9
 replace hA := hA.keep hk9 (fun q hq hs => by have hs : q = b6 := hs; have g0 := hAr q hq; have g1 := hAlt q hq; omega)
 replace hR := hR.keep hk9 (fun q hq hs => by have hs : q = b6 := hs; have g0 := hHo q hq; have g1 := hHlt q hq; omega)
 replace hV := hV.keep hk9 (fun q hq hs => by have hs : q = b6 := hs; have g0 := hVr q hq; have g1 := hFlt q hq; omega)
 replace hK0 := Keep.fr hK0 hk9
 refine On 9 [0, 1, 2, 3, 4, 10, 11] ?_
 refine Oer ?_
 refine On 4 [0, 1, 2, 3, 4, 10, 11, 19, 20, 21, 22] ?_
 refine Ok (kl 32 #[(.tmp 21), (.tmp 22)] #[33, 3]) 32 #[pt v, nt ref] (some 23) (tally_spec F v s ref _ (hV).1) ?_
 rintro _ w13 ⟨rfl, hk14⟩
 refine ⟨_, rfl, ?_⟩
 have hsz15 := Keep.size hk14
 replace hr := hr.k0 hk14
 replace hb1 := hb1.k0 hk14
 replace hb6_11 := hb6_11.k0 hk14
 replace hA := hA.keep0 hk14
 replace hR := hR.keep hk14 nk
 replace hV := hV.keep hk14 nk
 replace hK0 := hK0.tn hk14
 refine On 6 [0, 1, 2, 3, 4, 10, 11, 19, 20, 23, 24] ?_
 refine Ot 3 (.tmp 24) (.tmp 19) 0 (nt st) hb6_11 ?_
 intro w16 hb6_19 hk17 hz18
 replace hb6_19 : Blk w16 b6 (Rfm.cells { (getA rs ref) with state := st }) 57 := (Blk.eqL (by kernel_rfl) hb6_19)
 have hsz20 := Keep.size hk17
 replace hr := hr.k1 hk17
 replace hb1 := hb1.k1 hk17
 replace hA := hA.keep hk17 (fun q hq hs => by have hs : q = b6 := hs; have g0 := hAr q hq; have g1 := hAlt q hq; omega)
 replace hR := hR.keep hk17 (fun q hq hs => by have hs : q = b6 := hs; have g0 := hHo q hq; have g1 := hHlt q hq; omega)
 replace hV := hV.keep hk17 (fun q hq hs => by have hs : q = b6 := hs; have g0 := hVr q hq; have g1 := hFlt q hq; omega)
 replace hK0 := Keep.fr hK0 hk17
 refine On 8 [0, 1, 2, 3, 4, 10, 11, 20, 23, 25] ?_
 refine Ot 3 (.tmp 25) (.tmp 20) 41 (nt now) hb6_19 ?_
 intro w21 hb6_24 hk22 hz23
 replace hb6_24 : Blk w21 b6 (Rfm.cells { (getA rs ref) with state := st, stop := now }) 57 := (Blk.eqL (by kernel_rfl) hb6_24)
 have hsz25 := Keep.size hk22
 replace hr := hr.k1 hk22
 replace hb1 := hb1.k1 hk22
 replace hA := hA.keep hk22 (fun q hq hs => by have hs : q = b6 := hs; have g0 := hAr q hq; have g1 := hAlt q hq; omega)
 replace hR := hR.keep hk22 (fun q hq hs => by have hs : q = b6 := hs; have g0 := hHo q hq; have g1 := hHlt q hq; omega)
 replace hV := hV.keep hk22 (fun q hq hs => by have hs : q = b6 := hs; have g0 := hVr q hq; have g1 := hFlt q hq; omega)
 replace hK0 := Keep.fr hK0 hk22
 refine Os 10 [(0, pt r), (1, pt v), (2, nt ref), (3, nt st), (4, nt now), (10, pt b1), (11, pt b6), (23, .agg (Tly.cells (tallyT s ref)).toArray), (26, po_ b6 42)] ?_
 refine Otg 55 (.tmp 26) (.tmp 23) 42 (Tly.cells (tallyT s ref)) hb6_24 (Tly.len _) (Tly.one _) ?_
 intro w26 hb6_29 hk27 hz28
 replace hb6_29 : Blk w26 b6 (Rfm.cells { (getA rs ref) with state := st, stop := now, t := (tallyT s ref) }) 57 := (Blk.eqL (by kernel_rfl) hb6_29)
 have hsz30 := Keep.size hk27
 replace hr := hr.k1 hk27
 replace hb1 := hb1.k1 hk27
 replace hA := hA.keep hk27 (fun q hq hs => by have hs : q = b6 := hs; have g0 := hAr q hq; have g1 := hAlt q hq; omega)
 replace hR := hR.keep hk27 (fun q hq hs => by have hs : q = b6 := hs; have g0 := hHo q hq; have g1 := hHlt q hq; omega)
 replace hV := hV.keep hk27 (fun q hq hs => by have hs : q = b6 := hs; have g0 := hVr q hq; have g1 := hFlt q hq; omega)
 replace hK0 := Keep.fr hK0 hk27
 refine Oe ?_
 refine V_seq ?_
 refine V_draws (acts [6]) none_ [[0, 1, 2, 3, 4, 5, 6]] (by kernel_rfl) (by repeat first | exact (by first | exact sure_postM | exact sure_rQ2 | exact sure_no) | refine sure_then ?_ | refine sure_block ?_ | refine sure_join ?_) (by kernel_rfl) ?_
 intro w32 hk31 he33 L hL34
 have hsz35 := Keep.size hk31
 replace hr := hr.k0 hk31
 replace hb1 := hb1.k0 hk31
 replace hb6_29 := hb6_29.k0 hk31
 replace hA := hA.keep0 hk31
 replace hR := hR.keep hk31 nk
 replace hV := hV.keep hk31 nk
 replace hK0 := hK0.tn hk31
 have qhr := hr
 have qhb1 := hb1
 have qhb6_29 := hb6_29
 have K36 : Keep none_ w32 w32 := Keep.refl _ _
 obtain rfl := List.mem_singleton.1 hL34
 refine Gn [3, 4, 5, 6] [1, 2, 3, 4, 10, 11, 29] ?_
 refine Gc0 95 (.tmp 29) 1 (pt g) (some 30) qhr rfl ?_
 refine Gn [5, 6] [1, 2, 3, 4, 10, 11, 30, 31] ?_
 refine Ga 57 (.tmp 11) 0 (Rfm.cells { (getA rs ref) with state := st, stop := now, t := (tallyT s ref) }) (some 32) 45 qhb6_29 id (take_all (Rfm.len _)) (Rfm.len _) ?_
 refine GI_final 6 (by kernel_rfl) (by kernel_rfl) ?_
 refine Ok (kl 45 #[(.tmp 30), (.const (nt 0)), (.tmp 31), (.tmp 32)] #[95, 3, 3, 57]) 45 #[pt g, nt 0, nt ref, .agg (Rfm.cells { (getA rs ref) with state := st, stop := now, t := (tallyT s ref) }).toArray] (some 33) (rset_spec H r g ts rs ref ({ (getA rs ref) with state := st, stop := now, t := (tallyT s ref) }) _ hR href htr) ?_
 rintro _ w39 ⟨rfl, ⟨H41, hR42, hfr43⟩, hk40⟩
 refine ⟨_, rfl, ?_⟩
 have hsz44 := Keep.size hk40
 replace hr := hr.keep hk40 (fun hs => by have h1 := hgo _ hs; have h2 := hgl _ hs; omega)
 replace hb1 := hb1.keep hk40 (fun hs => by have h1 := hgo _ hs; have h2 := hgl _ hs; omega)
 replace hb6_29 := hb6_29.keep hk40 (fun hs => by have h1 := hgo _ hs; have h2 := hgl _ hs; omega)
 replace hA := hA.keep hk40 (fun q hq hs => (fun q h1 h2 => (hAo q h2).2.2 h1) q hs hq)
 replace hV := hV.keep hk40 (fun q hq hs => (fun q h1 h2 => hHF q (by rw [show q = g from h1]; exact hgH) h2) q hs hq)
 replace hK0 := Keep.fresh hK0 hk40 (by intro i hi hs; first | exact hs | (exfalso; have h1 := hgo i hs; have h2 := hgl i hs; omega) | (have h1 := hgo i hs; have h2 := hgl i hs; show _ ∨ _; omega))
 have own46 : ∀ q, H41 q → 0 ≤ q ∧ q ≠ b1 ∧ q ≠ b6 := fun q hq => by rcases hfr43 q hq with h | h; (have h1 := hHo q h; have h2 := hHlt q h; omega); omega
 have lt45 := Rfr.lt hR42
 have rel47 : ∀ q, H41 q → H q ∨ w.heap.size ≤ q := fun q hq => by rcases hfr43 q hq with h | h; exact hHr q h; exact .inr (by omega)
 have dis48 : ∀ q, H41 q → ¬ F q := fun q h1 h2 => by rcases hfr43 q h1 with h | h; exact hHF q h h2; (have h4 := hFlt q h2; omega)
 refine Oer ?_
 refine On 4 [2, 3, 10, 34, 35, 36, 37] ?_
 refine Ok (kl 42 #[(.tmp 34), (.tmp 35), (.tmp 36), (.tmp 37)] #[33, 3, 3, 3]) 42 #[pt v, nt ref, nt st, nt now] (some 38) (close_specT F v s ref st now _ hV) ?_
 rintro _ w51 ⟨rfl, ⟨F53, ho54, hfr55⟩, hk52⟩
 refine ⟨_, rfl, ?_⟩
 have hsz56 := Keep.size hk52
 replace hr := hr.keep hk52 (fun hs => by have h1 := hVr _ hs; have h2 := hFlt _ hs; omega)
 replace hb1 := hb1.keep hk52 (fun hs => by have h1 := hVr _ hs; have h2 := hFlt _ hs; omega)
 replace hb6_29 := hb6_29.keep hk52 (fun hs => by have h1 := hVr _ hs; have h2 := hFlt _ hs; omega)
 replace hA := hA.keep hk52 (fun q hq hs => (fun q h1 h2 => hHF q (hAo q h2).1 h1) q hs hq)
 replace hK0 := Keep.fresh hK0 hk52 (fun i hi hs => by rcases hFr i hs with h | h; exact .inr <| h; (exfalso; omega))
 replace hR42 := hR42.keep hk52 (fun q hq hs => (fun q h1 h2 => dis48 q h2 h1) q hs hq)
 have own58 : ∀ q, F53 q → q ≠ r ∧ q ≠ r ∧ q ≠ b1 ∧ q ≠ b6 := fun q hq => by rcases hfr55 q hq with h | h; (have h1 := hVr q h; have h2 := hFlt q h; omega); omega
 have lt57 := VotT.lt ho54
 have rel59 : ∀ q, F53 q → F q ∨ w.heap.size ≤ q := fun q hq => by rcases hfr55 q hq with h | h; exact hFr q h; exact .inr (by omega)
 have dis60 : ∀ q, F53 q → ¬ inA A q := fun q h1 h2 => by rcases hfr55 q h1 with h | h; exact (fun q h1 h2 => hHF q (hAo q h2).1 h1) q h h2; (have h4 := hAlt q h2; omega)
 have dis61 : ∀ q, F53 q → ¬ H41 q := fun q h1 h2 => by rcases hfr55 q h1 with h | h; exact (fun q h1 h2 => dis48 q h2 h1) q h h2; (have h4 := lt45 q h2; omega)
 refine Oer ?_
 refine Os 3 [(10, pt b1), (41, .agg #[nt 1, nt ref, nt st])] ?_
 refine OI_set (m := 3) (kd := true) 53 (.tmp 10) (.tmp 41) 0 (.agg #[nt 1, nt ref, nt st]) [nt 1, nt ref, nt st] none (by kernel_rfl) (by kernel_rfl) (by kernel_rfl) hb1 (by kernel_rfl) (by kernel_rfl) (by kernel_rfl) (Nat.le_of_ble_eq_true (by kernel_rfl)) (by simp [Value.oneCell']) ?_
 intro w62 hb1_65 hk63 hz64
 replace hb1_65 : Blk w62 b1 [nt 1, nt ref, nt st] 53 := hb1_65
 have hsz66 := Keep.size hk63
 replace hr := hr.k1 hk63
 replace hb6_29 := hb6_29.k1 hk63
 replace hA := hA.keep hk63 (fun q hq hs => by have hs : q = b1 := hs; have g0 := hAr q hq; have g1 := hAlt q hq; omega)
 replace hK0 := Keep.fr hK0 hk63
 replace hR42 := hR42.keep hk63 (fun q hq hs => by have hs : q = b1 := hs; have g0 := own46 q hq; have g1 := lt45 q hq; omega)
 replace ho54 := ho54.keep hk63 (fun q hq hs => by have hs : q = b1 := hs; have g0 := own58 q hq; have g1 := lt57 q hq; omega)
 refine Oe ?_
 refine V_ret ?_
 exact leave0 (.agg [nt 1, nt ref, nt st].toArray) (.inl rfl) (res_agg1 (m := 3) rfl rfl (by kernel_rfl) hb1_65 rfl) ⟨rfl, ⟨H41, F53, hR42, ho54, rel47, rel59, (fun q h1 h2 => dis61 q h2 h1)⟩, hK0⟩
end Go.Al

namespace Go.Al
open Go Go.RowKit Go.Proofs
section
variable {ts : List Trk} {rs r1 : List Rfm} {now iss ref st : Int} {s : VS} {q : SvS}
theorem begR_len (rs : List Rfm) (of : Int) : (begR ts s now rs of).length = rs.length := by unfold begR; rw [setsN_len]
theorem begK_len (rs : List Rfm) : ∀ k, (begK ts s now rs k).length = rs.length
  | 0 => rfl
  | k + 1 => by show (begR ts s now (begK ts s now rs k) _).length = _; rw [begR_len, begK_len rs k]
theorem svcStep_len (i : Int) (x : Rfm) (q : SvS) : (svcStep ts iss now i x q).rs.length = q.rs.length := by
  unfold svcStep
  split
  · rfl
  · split
    · show (q.rs.set _ _).length = _; rw [List.length_set]
    · show (q.rs.set _ _).length = _; rw [List.length_set]
theorem svcStep_at {k : Nat} (x : Rfm) (q : SvS) {j : Nat} (h : k < j) : (svcStep ts iss now (k : Int) x q).rs[j]? = q.rs[j]? := by
  unfold svcStep
  split
  · rfl
  · split
    · show (q.rs.set _ _)[j]? = _; rw [Int.toNat_natCast, List.getElem?_set_ne (by omega)]
    · show (q.rs.set _ _)[j]? = _; rw [Int.toNat_natCast, List.getElem?_set_ne (by omega)]
theorem svcK_at (q : SvS) : ∀ k, (svcK ts iss now r1 q k).rs.length = q.rs.length ∧ ∀ j, k ≤ j → (svcK ts iss now r1 q k).rs[j]? = q.rs[j]?
  | 0 => ⟨rfl, fun _ _ => rfl⟩
  | k + 1 => by
    obtain ⟨h1, h2⟩ := svcK_at q k
    show ((match r1[k]? with | none => svcK ts iss now r1 q k | some x => svcStep ts iss now k x (svcK ts iss now r1 q k)) : SvS).rs.length = _ ∧ ∀ j, k + 1 ≤ j → ((match r1[k]? with | none => svcK ts iss now r1 q k | some x => svcStep ts iss now k x (svcK ts iss now r1 q k)) : SvS).rs[j]? = _
    cases r1[k]? with
    | none => exact ⟨h1, fun j hj => h2 j (by omega)⟩
    | some x => exact ⟨(svcStep_len _ _ _).trans h1, fun j hj => (svcStep_at _ _ (by omega)).trans (h2 j (by omega))⟩
theorem svcK_step {k : Nat} {x : Rfm} (h : r1[k]? = some x) : svcK ts iss now r1 q (k + 1) = svcStep ts iss now (k : Int) x (svcK ts iss now r1 q k) := by
  show (match r1[k]? with | none => _ | some x => _) = _
  rw [h]
theorem step_skip {i : Int} {x : Rfm} (h : ¬ x.state = 1) : svcStep ts iss now i x q = q := by unfold svcStep; rw [if_pos h]
theorem step_on {i : Int} {x : Rfm} (h : x.state = 1) (h2 : decE ts x (tallyT q.s i) iss now = 0) : svcStep ts iss now i x q = { q with rs := q.rs.set i.toNat (decY ts x (tallyT q.s i) iss now) } := by unfold svcStep; rw [if_neg (fun h9 => h9 h), if_pos h2]
theorem step_end {i : Int} {x : Rfm} (h : x.state = 1) (h2 : ¬ decE ts x (tallyT q.s i) iss now = 0) : svcStep ts iss now i x q = ⟨closeS q.s i (decE ts x (tallyT q.s i) iss now) now, q.rs.set i.toNat (endY q.s (decY ts x (tallyT q.s i) iss now) i (decE ts x (tallyT q.s i) iss now) now), q.out ++ [Evt.mk 1 i (decE ts x (tallyT q.s i) iss now)]⟩ := by unfold svcStep; rw [if_neg (fun h9 => h9 h), if_neg h2]
theorem decY_trk (x : Rfm) (y : Tly) : (decY ts x y iss now).track = x.track := by unfold decY; split <;> rfl
theorem endR_set {y : Rfm} {k : Nat} (hk : k < rs.length) : endR s (rs.set ((k : Int)).toNat y) (k : Int) st now = rs.set ((k : Int)).toNat (endY s y (k : Int) st now) := by
  have e : getA (rs.set ((k : Int)).toNat y) (k : Int) = y := by
    unfold getA getR
    rw [List.length_set, if_pos (by omega), List.getElem?_set_self (by omega)]; rfl
  unfold endR
  rw [e, List.set_set]
theorem svc_out_len (q : SvS) : ∀ k, (svcK ts iss now r1 q k).out.length ≤ q.out.length + k
  | 0 => Nat.le_refl _
  | k + 1 => by
    have h := svc_out_len q k
    show ((match r1[k]? with | none => svcK ts iss now r1 q k | some x => svcStep ts iss now k x (svcK ts iss now r1 q k)) : SvS).out.length ≤ _
    cases r1[k]? with
    | none => show (svcK ts iss now r1 q k).out.length ≤ _; omega
    | some x =>
      show (svcStep ts iss now k x (svcK ts iss now r1 q k)).out.length ≤ _
      unfold svcStep
      split
      · omega
      · split
        · show (svcK ts iss now r1 q k).out.length ≤ _; omega
        · show (_ ++ [_]).length ≤ _; rw [List.length_append, List.length_singleton]; omega
end
set_option maxRecDepth 10000 in
set_option maxHeartbeats 4000000 in
theorem service_spec (H : Nat → Prop) (r g : Nat) (ts : List Trk) (rs : List Rfm) (F : Nat → Prop) (v : Nat) (s : VS) (G : Nat → Prop) (l : Nat) (xs : List Acc) (cs : List Ci) (now : Int) (w : World) (hR : Rfr H w r g ts rs) (hV : VotT F w v s) (hl : Led G w l xs cs) (hHF : ∀ q, H q → ¬ F q) (hHG : ∀ q, H q → ¬ G q) (hFG : ∀ q, F q → ¬ G q) : Calls Tryz.prog 22 #[pt r, pt l, pt v, nt now] w fun e w' => ∃ A' cap', e = .returned (.slice A' (svcQ ts xs s rs now).out.length cap') ∧ SlT w' 3 Evt.cells A' cap' (svcQ ts xs s rs now).out ∧ (∀ q, inA A' q → w.heap.size ≤ q) ∧ (∃ H' F', Rfr H' w' r g ts (svcQ ts xs s rs now).rs ∧ VotT F' w' v (svcQ ts xs s rs now).s ∧ (∀ q, H' q → H q ∨ w.heap.size ≤ q) ∧ (∀ q, F' q → F q ∨ w.heap.size ≤ q) ∧ (∀ q, H' q → ¬ F' q) ∧ (∀ q, inA A' q → ¬ H' q) ∧ (∀ q, inA A' q → ¬ F' q)) ∧ Keep (fun q => q = g ∨ F q) w w' := by
 have hHlt := Rfr.lt hR
 have hrH := Rfr.at_ hR
 have hgH := Rfr.atg hR
 have hrlt := hHlt _ hrH
 have hglt := hHlt _ hgH
 have hin := Rfr.inn hR
 obtain ⟨A, cap, hr, hA, hAo, hrg⟩ := Rfr.parts hR
 have hAlt := SlT.lt hA
 have hAr : ∀ q, inA A q → q ≠ r ∧ q ≠ g ∧ q < w.heap.size := fun q hq => ⟨(hAo q hq).2.1, (hAo q hq).2.2, hAlt q hq⟩
 have hgo : ∀ q, only g q → q ≠ r ∧ q = g := fun q hq => ⟨fun e => hrg (e.symm.trans hq), hq⟩
 have hgl : ∀ q, only g q → q < w.heap.size := fun q hq => by rw [show q = g from hq]; exact hglt
 have hHo : ∀ q, H q → 0 ≤ q := fun q _ => Nat.zero_le q
 have htl := hin.tl
 have hrl := hin.rl
 have hFlt := VotT.lt hV
 have hvlt := hFlt _ (VotT.at_ hV)
 have hVr : ∀ q, F q → q ≠ r := fun q hq e => hHF r hrH (e ▸ hq)
 have hGlt := Led.lt hl
 have hllt := hGlt _ (Led.at_ hl)
 have hlr : ∀ q, G q → q ≠ r := fun q hq e => hHG r hrH (e ▸ hq)
 have hinv := Led.inv hl
 have hHr : ∀ q, H q → H q ∨ w.heap.size ≤ q := fun _ h => .inl h
 have hFr : ∀ q, F q → F q ∨ w.heap.size ≤ q := fun _ h => .inl h
 have hK0 : Keep (fun q => q = g ∨ F q) w w := Keep.refl _ _
 have hzhK0 := Keep.size hK0
 refine enterM Tryz.func22 rfl [pt r, pt l, pt v, nt now] 77 rfl rfl rfl ?_
 refine V_pick [(0, pt r), (1, pt l), (2, pt v), (3, nt now)] rfl ?_
 refine Vr ?_
 refine OI_box 34 (.tmp 0) (pt r) [pt r] (some 4) (by kernel_rfl) (by kernel_rfl) (by kernel_rfl) ?_
 intro b1 w1 e1 hb1 k1 z1
 have hsz2 := Keep.size k1
 replace hr := hr.k0 k1
 replace hA := hA.keep0 k1
 replace hR := hR.keep k1 nk
 replace hV := hV.keep k1 nk
 replace hl := hl.keep k1 nk
 replace hK0 := hK0.tn k1
 have hb1lt := hb1.lt
 refine OI_box 32 (.tmp 1) (pt l) [pt l] (some 5) (by kernel_rfl) (by kernel_rfl) (by kernel_rfl) ?_
 intro b3 w3 e3 hb3 k3 z3
 have hsz4 := Keep.size k3
 replace hr := hr.k0 k3
 replace hb1 := hb1.k0 k3
 replace hA := hA.keep0 k3
 replace hR := hR.keep k3 nk
 replace hV := hV.keep k3 nk
 replace hl := hl.keep k3 nk
 replace hK0 := hK0.tn k3
 have hb3lt := hb3.lt
 refine OI_box 33 (.tmp 2) (pt v) [pt v] (some 6) (by kernel_rfl) (by kernel_rfl) (by kernel_rfl) ?_
 intro b5 w5 e5 hb5 k5 z5
 have hsz6 := Keep.size k5
 replace hr := hr.k0 k5
 replace hb1 := hb1.k0 k5
 replace hb3 := hb3.k0 k5
 replace hA := hA.keep0 k5
 replace hR := hR.keep k5 nk
 replace hV := hV.keep k5 nk
 replace hl := hl.keep k5 nk
 replace hK0 := hK0.tn k5
 have hb5lt := hb5.lt
 refine OI_box 3 (.tmp 3) (nt now) [nt now] (some 7) (by kernel_rfl) (by kernel_rfl) (by kernel_rfl) ?_
 intro b7 w7 e7 hb7 k7 z7
 have hsz8 := Keep.size k7
 replace hr := hr.k0 k7
 replace hb1 := hb1.k0 k7
 replace hb3 := hb3.k0 k7
 replace hb5 := hb5.k0 k7
 replace hA := hA.keep0 k7
 replace hR := hR.keep k7 nk
 replace hV := hV.keep k7 nk
 replace hl := hl.keep k7 nk
 replace hK0 := hK0.tn k7
 have hb7lt := hb7.lt
 refine On 5 [4, 5, 6, 7, 8] ?_
 refine Oe ?_
 refine V_seq ?_
 refine Vr ?_
 refine Oc 34 (.tmp 4) 0 (pt r) (some 15) hb1 rfl ?_
 refine On 3 [4, 5, 6, 7, 8, 17] ?_
 refine Oc 32 (.tmp 5) 0 (pt l) (some 18) hb3 rfl ?_
 refine On 7 [4, 5, 6, 7, 8, 21] ?_
 refine Oc 33 (.tmp 6) 0 (pt v) (some 22) hb5 rfl ?_
 refine Ose [(4, pt b1), (5, pt b3), (6, pt b5), (7, pt b7), (8, .slice none 0 0), (24, .bool false)] ?_
 refine V_false rfl ?_
 refine V_skip ?_
 refine X_then ?_
 refine V_seq ?_
 refine Vr ?_
 refine Oc 34 (.tmp 4) 0 (pt r) (some 25) hb1 rfl ?_
 refine On 3 [4, 5, 6, 7, 8, 27] ?_
 refine Oc 29 (.tmp 27) 0 (.slice A ts.length cap) (some 28) hr rfl ?_
 refine Ose [(4, pt b1), (5, pt b3), (6, pt b5), (7, pt b7), (8, .slice none 0 0), (29, nt (ts.length : Int)), (30, nt 0)] ?_
 refine V_block ?_
 refine V_pick [(4, pt b1), (5, pt b3), (6, pt b5), (7, pt b7), (8, .slice none 0 0), (29, nt (ts.length : Int)), (30, nt 0)] rfl ?_
 refine V_loop (fun k wI e => ∃ i : Nat, ∃ Hi : Nat → Prop, (k + i = ts.length) ∧ (Rfr Hi wI r g ts (begK ts s now rs i)) ∧ (∀ q, Hi q → 0 ≤ q ∧ q ≠ b1 ∧ q ≠ b3 ∧ q ≠ b5 ∧ q ≠ b7) ∧ (∀ q, Hi q → H q ∨ w.heap.size ≤ q) ∧ (∀ q, Hi q → ¬ F q) ∧ (∀ q, Hi q → ¬ G q) ∧ Keep (only g) w7 wI ∧ e = [(4, pt b1), (5, pt b3), (6, pt b5), (7, pt b7), (8, .slice none 0 0), (29, nt (ts.length : Int)), (30, nt (i : Int))]) ts.length ⟨0, H, by omega, hR, (fun q hq => by have h1 := hHo q hq; have h2 := hHlt q hq; omega), hHr, hHF, hHG, Keep.refl _ _, rfl⟩ ?_
 rintro k10 w9 _ ⟨i, Hi, hki, hRi, hHio, hHifr, hHiF, hHiG, hk11, rfl⟩
 have hsz12 := Keep.size hk11
 replace hr := hr.keep hk11 (fun hs => by have h1 := hgo _ hs; have h2 := hgl _ hs; omega)
 replace hb1 := hb1.keep hk11 (fun hs => by have h1 := hgo _ hs; have h2 := hgl _ hs; omega)
 replace hb3 := hb3.keep hk11 (fun hs => by have h1 := hgo _ hs; have h2 := hgl _ hs; omega)
 replace hb5 := hb5.keep hk11 (fun hs => by have h1 := hgo _ hs; have h2 := hgl _ hs; omega)
 replace hb7 := hb7.keep hk11 (fun hs => by have h1 := hgo _ hs; have h2 := hgl _ hs; omega)
 replace hA := hA.keep hk11 (fun q hq hs => (fun q h1 h2 => (hAo q h2).2.2 h1) q hs hq)
 replace hV := hV.keep hk11 (fun q hq hs => (fun q h1 h2 => hHF q (by rw [show q = g from h1]; exact hgH) h2) q hs hq)
 replace hl := hl.keep hk11 (fun q hq hs => (fun q h1 h2 => hHG q (by rw [show q = g from h1]; exact hgH) h2) q hs hq)
 replace hK0 := Keep.fresh hK0 hk11 (by intro i hi hs; first | exact hs | (exfalso; have h1 := hgo i hs; have h2 := hgl i hs; omega) | (have h1 := hgo i hs; have h2 := hgl i hs; show _ ∨ _; omega))
 have hzhk11 := Keep.size hk11
 have lt13 := Rfr.lt hRi
 refine Vs [(4, pt b1), (5, pt b3), (6, pt b5), (7, pt b7), (8, .slice none 0 0), (29, nt (ts.length : Int)), (30, nt (i : Int)), (31, .bool (decide ((i : Int) < (ts.length : Int))))] ?_
 refine V_seq ?_
 refine V_if ((i : Int) < (ts.length : Int)) (by kernel_rfl) (fun hc14 => ?_) (fun hc14 => ?_)
 ·
  have hki2 : i < ts.length := by omega
  refine V_skip ?_
  refine X_then ?_
  refine V_seq ?_
  refine V_block ?_
  refine Vr ?_
  refine On 2 [4, 5, 6, 7, 8, 9, 29, 30] ?_
  refine Oe ?_
  refine V_region ?_
  refine Oc 34 (.tmp 4) 0 (pt r) (some 33) hb1 rfl ?_
  refine Oc 33 (.tmp 6) 0 (pt v) (some 34) hb5 rfl ?_
  refine Os 3 [(4, pt b1), (5, pt b3), (6, pt b5), (7, pt b7), (8, .slice none 0 0), (29, nt (ts.length : Int)), (30, nt (i : Int)), (33, pt r), (34, pt v), (35, nt (i : Int))] ?_
  refine Oc 3 (.tmp 7) 0 (nt now) (some 36) hb7 rfl ?_
  refine Ok (kl 49 #[(.tmp 33), (.tmp 34), (.tmp 35), (.tmp 36)] #[34, 33, 3, 3]) 49 #[pt r, pt v, nt (i : Int), nt now] (some 37) (begins_spec Hi r g ts (begK ts s now rs i) F v s i now _ hRi hV hHiF hki2) ?_
  rintro _ w17 ⟨rfl, ⟨H19, ho20, hfr21⟩, hk18⟩
  refine ⟨_, rfl, ?_⟩
  have hsz22 := Keep.size hk18
  replace hr := hr.keep hk18 (fun hs => by have h1 := hgo _ hs; have h2 := hgl _ hs; omega)
  replace hb1 := hb1.keep hk18 (fun hs => by have h1 := hgo _ hs; have h2 := hgl _ hs; omega)
  replace hb3 := hb3.keep hk18 (fun hs => by have h1 := hgo _ hs; have h2 := hgl _ hs; omega)
  replace hb5 := hb5.keep hk18 (fun hs => by have h1 := hgo _ hs; have h2 := hgl _ hs; omega)
  replace hb7 := hb7.keep hk18 (fun hs => by have h1 := hgo _ hs; have h2 := hgl _ hs; omega)
  replace hA := hA.keep hk18 (fun q hq hs => (fun q h1 h2 => (hAo q h2).2.2 h1) q hs hq)
  replace hV := hV.keep hk18 (fun q hq hs => (fun q h1 h2 => hHiF q (by rw [show q = g from h1]; exact (Rfr.atg hRi)) h2) q hs hq)
  replace hl := hl.keep hk18 (fun q hq hs => (fun q h1 h2 => hHiG q (by rw [show q = g from h1]; exact (Rfr.atg hRi)) h2) q hs hq)
  replace hK0 := Keep.fresh hK0 hk18 (by intro i hi hs; first | exact hs | (exfalso; have h1 := hgo i hs; have h2 := hgl i hs; omega) | (have h1 := hgo i hs; have h2 := hgl i hs; show _ ∨ _; omega))
  replace hk11 := Keep.fresh hk11 hk18 (by intro i hi hs; first | exact hs | (exfalso; have h1 := hgo i hs; have h2 := hgl i hs; omega) | (have h1 := hgo i hs; have h2 := hgl i hs; show _ ∨ _; omega))
  have own24 : ∀ q, H19 q → 0 ≤ q ∧ q ≠ b1 ∧ q ≠ b3 ∧ q ≠ b5 ∧ q ≠ b7 := fun q hq => by rcases hfr21 q hq with h | h; (have h1 := hHio q h; have h2 := lt13 q h; omega); omega
  have lt23 := Rfr.lt ho20
  have rel25 : ∀ q, H19 q → H q ∨ w.heap.size ≤ q := fun q hq => by rcases hfr21 q hq with h | h; exact hHifr q h; exact .inr (by omega)
  have dis26 : ∀ q, H19 q → ¬ F q := fun q h1 h2 => by rcases hfr21 q h1 with h | h; exact hHiF q h h2; (have h4 := hFlt q h2; omega)
  have dis27 : ∀ q, H19 q → ¬ G q := fun q h1 h2 => by rcases hfr21 q h1 with h | h; exact hHiG q h h2; (have h4 := hGlt q h2; omega)
  refine OI_end rfl ?_
  refine X_block ?_
  refine X_then ?_
  refine V_region ?_
  have hw28 : IntKind.i64.wrap ((i : Int) + 1) = ((i + 1 : Nat) : Int) := (wrap64_id (by omega) (by omega)).trans (by omega)
  refine Os 1 [(4, pt b1), (5, pt b3), (6, pt b5), (7, pt b7), (8, .slice none 0 0), (29, nt (ts.length : Int)), (38, nt (IntKind.i64.wrap ((i : Int) + 1)))] ?_
  refine Oq (u := nt (IntKind.i64.wrap ((i : Int) + 1))) (v := nt ((i + 1 : Nat) : Int)) 38 (by rw [hw28]) ?_
  refine Os 2 [(4, pt b1), (5, pt b3), (6, pt b5), (7, pt b7), (8, .slice none 0 0), (29, nt (ts.length : Int)), (30, nt ((i + 1 : Nat) : Int))] ?_
  refine OI_end rfl ?_
  exact V_again (k10 - 1) (by omega) [(4, pt b1), (5, pt b3), (6, pt b5), (7, pt b7), (8, .slice none 0 0), (29, nt (ts.length : Int)), (30, nt ((i + 1 : Nat) : Int))] rfl ⟨i + 1, H19, by omega, ho20, (fun q hq => by have h1 := own24 q hq; have h2 := lt23 q hq; omega), rel25, dis26, dis27, hk11, rfl⟩
 refine V_exit ?_
 refine X_exit_then ?_
 refine X_exit_then ?_
 refine X_exit_here ?_
 refine X_then ?_
 refine Vr ?_
 refine OI_alloc 50 (.slice none 0 0) [.slice none 0 0] (some 10) (by kernel_rfl) (by kernel_rfl) (by kernel_rfl) ?_
 intro b29 w29 e29 hb29 k29 z29
 have hsz30 := Keep.size k29
 replace hr := hr.k0 k29
 replace hb1 := hb1.k0 k29
 replace hb3 := hb3.k0 k29
 replace hb5 := hb5.k0 k29
 replace hb7 := hb7.k0 k29
 replace hA := hA.keep0 k29
 replace hV := hV.keep k29 nk
 replace hl := hl.keep k29 nk
 replace hK0 := hK0.tn k29
 replace hRi := hRi.keep k29 nk
 have hb29lt := hb29.lt
 refine Oe ?_
 refine V_seq ?_
 refine Vr ?_
 refine Oc 34 (.tmp 4) 0 (pt r) (some 39) hb1 rfl ?_
 refine Ok (kl 48 #[(.tmp 39)] #[34]) 48 #[pt r] (some 40) (all_at r g _ _ _ _ hr) ?_
 rintro _ w33 ⟨bg35, bs36, bn37, rfl, hbg35, hbs36, hbn37, hk34, hgebg35, hgebs36, hgebn37⟩
 refine ⟨_, rfl, ?_⟩
 have hsz38 := Keep.size hk34
 replace hr := hr.k0 hk34
 replace hb1 := hb1.k0 hk34
 replace hb3 := hb3.k0 hk34
 replace hb5 := hb5.k0 hk34
 replace hb7 := hb7.k0 hk34
 replace hb29 := hb29.k0 hk34
 replace hA := hA.keep0 hk34
 replace hV := hV.keep hk34 nk
 replace hl := hl.keep hk34 nk
 replace hK0 := hK0.tn hk34
 replace hRi := hRi.keep hk34 nk
 have hbg35lt := hbg35.lt
 have hbs36lt := hbs36.lt
 have hbn37lt := hbn37.lt
 refine Oe ?_
 refine V_block ?_
 have hie : i = ts.length := by omega
 obtain ⟨r1, hr1⟩ : ∃ q, q = begK ts s now rs ts.length := ⟨_, rfl⟩
 rw [hie, ← hr1] at hRi
 have hr1l : r1.length = rs.length := by rw [hr1, begK_len]
 obtain ⟨D, hD9, hDH⟩ := Rfr.grqF hRi
 obtain ⟨_, _, _, _, A2, cap2, hat2, hAD2⟩ := hD9
 have hA2 := hat2.sl
 have owA2 : ∀ q, inA A2 q → q ≠ g ∧ q < w33.heap.size ∧ q ≠ b1 ∧ q ≠ b3 ∧ q ≠ b5 ∧ q ≠ b7 ∧ q ≠ b29 ∧ q ≠ bg35 ∧ q ≠ bs36 ∧ q ≠ bn37 := fun q hq => by have h1 := hHio q (hDH q (hAD2 q hq)); have h2 := lt13 q (hDH q (hAD2 q hq)); exact ⟨fun e => hat2.off (e ▸ hq), by omega⟩
 refine V_pick [(4, pt b1), (5, pt b3), (6, pt b5), (7, pt b7), (10, pt b29), (40, .func (.func 183) #[] #[pt bg35, pt bs36, pt bn37])] rfl ?_
 have hN0 : w.heap.size ≤ w33.heap.size := Keep.size hK0
 refine V_range2 (gf := 183) (caps := #[pt bg35, pt bs36, pt bn37]) (m := r1.length) (by kernel_rfl) (by kernel_rfl) (by kernel_rfl) (alongQ bg35 bs36 bn37 g cap2 A2 r1 (by omega)) (⟨hbg35, hat2, ⟨hbs36, hbn37, hA2⟩⟩) (fun W W' h k => ⟨h.1.quiet k, h.2.1.quiet k, h.2.2.quiet k⟩) (GQ.enc2_size _) (fun M1 k W => ∃ Ak : Option Addr, ∃ capk : Nat, ∃ Hk : Nat → Prop, ∃ Fk : Nat → Prop, (Blk W r [.slice A ts.length cap, pt g] 97) ∧ (Blk W b1 [pt r] 34) ∧ (Blk W b3 [pt l] 32) ∧ (Blk W b5 [pt v] 33) ∧ (Blk W b7 [nt now] 3) ∧ (Blk W bs36 [nt 0] 3) ∧ (Blk W bn37 [nt 0] 3) ∧ (SlT W 18 Trk.cells A cap ts) ∧ (SlT W 47 GQ.Ci.cells A2 cap2 (cellsQ 0 r1)) ∧ (Led G W l xs cs) ∧ (Keep (fun q => q = g ∨ F q) w W) ∧ (Blk W b29 [.slice Ak ((svcK ts (tot xs) now r1 ⟨s, r1, []⟩ k).out.length) capk] 50) ∧ (SlT W 3 Evt.cells Ak capk ((svcK ts (tot xs) now r1 ⟨s, r1, []⟩ k).out)) ∧ (Rfr Hk W r g ts (svcK ts (tot xs) now r1 ⟨s, r1, []⟩ k).rs) ∧ (VotT Fk W v (svcK ts (tot xs) now r1 ⟨s, r1, []⟩ k).s) ∧ (∀ q, inA Ak q → M1 ≤ q) ∧ (∀ q, Hk q → (q < w33.heap.size ∨ M1 ≤ q) ∧ q ≠ b1 ∧ q ≠ b3 ∧ q ≠ b5 ∧ q ≠ b7 ∧ q ≠ b29 ∧ q ≠ bs36 ∧ q ≠ bn37) ∧ (∀ q, Hk q → H q ∨ w.heap.size ≤ q) ∧ (∀ q, Fk q → (q < w33.heap.size ∨ M1 ≤ q) ∧ q ≠ r ∧ q ≠ b1 ∧ q ≠ b3 ∧ q ≠ b5 ∧ q ≠ b7 ∧ q ≠ b29 ∧ q ≠ bs36 ∧ q ≠ bn37) ∧ (∀ q, Fk q → F q ∨ w.heap.size ≤ q) ∧ (∀ q, Hk q → ¬ Fk q) ∧ (∀ q, Hk q → ¬ G q) ∧ (∀ q, Fk q → ¬ G q) ∧ (∀ q, Fk q → ¬ inA A2 q) ∧ (∀ q, Fk q → ¬ inA A q) ∧ (∀ q, inA Ak q → ¬ Hk q) ∧ (∀ q, inA Ak q → ¬ Fk q)) (fun M1 c k W => False) (fun M1 k W W' h hk => by obtain ⟨Ak, capk, Hk, Fk, jr, jb1, jb3, jb5, jb7, jbs36, jbn37, jA, jA2, jhl, jhK0, jb29, jAk, jR, jV, ownk, hHko, hHkr, hFko, hFkr, dHF, dHG, dFG, dFA2, dFA, dAkH, dAkF⟩ := h; exact ⟨Ak, capk, Hk, Fk, jr.quiet hk, jb1.quiet hk, jb3.quiet hk, jb5.quiet hk, jb7.quiet hk, jbs36.quiet hk, jbn37.quiet hk, jA.quiet hk, jA2.quiet hk, Led.quiet jhl hk, jhK0.quiet hk (by omega), jb29.quiet hk, jAk.quiet hk, Rfr.quiet jR hk, VotT.quiet jV hk, ownk, hHko, hHkr, hFko, hFkr, dHF, dHG, dFG, dFA2, dFA, dAkH, dAkF⟩) (fun _ _ _ _ _ h _ => h.elim) (fun M1 hM1 => ⟨none, 0, Hi, F, hr, hb1, hb3, hb5, hb7, hbs36, hbn37, hA, hA2, hl, hK0, hb29, SlT.nil _ _ _, hRi, hV, fun q h => (inA_none h).elim, (fun q hq => by have h1 := hHio q hq; have h2 := lt13 q hq; omega), hHifr, (fun q hq => by have h1 := hVr q hq; have h2 := hFlt q hq; omega), hFr, hHiF, hHiG, hFG, (fun q h1 h2 => hHiF q (hDH q (hAD2 q h2)) h1), (fun q h1 h2 => hHF q (hAo q h2).1 h1), fun q h => (inA_none h).elim, fun q h => (inA_none h).elim⟩) (fun M1 k W h => by obtain ⟨Ak, capk, Hk, Fk, jr, jb1, jb3, jb5, jb7, jbs36, jbn37, jA, jA2, jhl, jhK0, jb29, jAk, jR, jV, ownk, hHko, hHkr, hFko, hFkr, dHF, dHG, dFG, dFA2, dFA, dAkH, dAkF⟩ := h; exact ⟨jbs36, jbn37, jA2⟩) ?_ ?_ (fun _ _ _ _ _ _ _ _ h _ => h.elim)
 ·
  intro lp D M1 k W hD hl hM hMW hkm ⟨Ak, capk, Hk, Fk, jr, jb1, jb3, jb5, jb7, jbs36, jbn37, jA, jA2, jhl, jhK0, jb29, jAk, jR, jV, ownk, hHko, hHkr, hFko, hFkr, dHF, dHG, dFG, dFA2, dFA, dAkH, dAkF⟩ ⟨rr, hrr⟩ hDD
  have hzjhK0 := Keep.size jhK0
  have hrlt := jr.lt
  have hb1lt := jb1.lt
  have hb3lt := jb3.lt
  have hb5lt := jb5.lt
  have hb7lt := jb7.lt
  have hb29lt := jb29.lt
  have hbs36lt := jbs36.lt
  have hbn37lt := jbn37.lt
  have ltjA := SlT.lt jA
  have ltjA2 := SlT.lt jA2
  have ltjAk := SlT.lt jAk
  have lt39 := Rfr.lt jR
  have lt40 := VotT.lt jV
  obtain ⟨x, hx⟩ : ∃ x, r1[k]? = some x := ⟨_, List.getElem?_eq_getElem (by omega)⟩
  rw [GQ.enc2_at (zipQ_at0 hx)]
  obtain ⟨hql, hqa⟩ := svcK_at (ts := ts) (iss := (tot xs)) (now := now) (r1 := r1) ⟨s, r1, []⟩ k
  have hqx := (hqa k (Nat.le_refl _)).trans hx
  have hxt := (Rfr.inn jR).rtk x (List.mem_of_getElem? hqx)
  have hstp := svcK_step (ts := ts) (iss := (tot xs)) (now := now) (q := ⟨s, r1, []⟩) hx
  replace hql : (svcK ts (tot xs) now r1 ⟨s, r1, []⟩ k).rs.length = r1.length := hql
  have hol := svc_out_len (ts := ts) (iss := (tot xs)) (now := now) (r1 := r1) ⟨s, r1, []⟩ k
  replace hol : (svcK ts (tot xs) now r1 ⟨s, r1, []⟩ k).out.length ≤ 0 + k := hol
  have hkl : k < r1.length := hkm
  refine V_pick [(4, pt b1), (5, pt b3), (6, pt b5), (7, pt b7), (10, pt b29), (41, nt (k : Int)), (42, .agg (Rfm.cells x).toArray)] rfl ?_
  have hfen : Keep (fen w33.heap.size M1) W W := Keep.refl _ _
  have hzhfen := Keep.size hfen
  refine Vs [(4, pt b1), (5, pt b3), (6, pt b5), (7, pt b7), (10, pt b29), (11, nt (k : Int)), (42, .agg (Rfm.cells x).toArray)] ?_
  refine V_region ?_
  refine OI_alloc 57 (.agg (Rfm.cells Rfm.zero).toArray) (Rfm.cells Rfm.zero) (some 12) (by kernel_rfl) (by kernel_rfl) (by kernel_rfl) ?_
  intro b41 w41 e41 hb41 k41 z41
  have hsz42 := Keep.size k41
  replace jr := jr.k0 k41
  replace jb1 := jb1.k0 k41
  replace jb3 := jb3.k0 k41
  replace jb5 := jb5.k0 k41
  replace jb7 := jb7.k0 k41
  replace jb29 := jb29.k0 k41
  replace jbs36 := jbs36.k0 k41
  replace jbn37 := jbn37.k0 k41
  replace jA := jA.keep0 k41
  replace jA2 := jA2.keep0 k41
  replace jAk := jAk.keep0 k41
  replace jhl := jhl.keep k41 nk
  replace jhK0 := jhK0.tn k41
  replace jR := jR.keep k41 nk
  replace jV := jV.keep k41 nk
  replace hfen := hfen.tn k41
  have hb41lt := hb41.lt
  refine Otg 57 (.tmp 12) (.tmp 42) 0 (Rfm.cells x) hb41 (Rfm.len _) (Rfm.one _) ?_
  intro w43 hb41_46 hk44 hz45
  replace hb41_46 : Blk w43 b41 (Rfm.cells x) 57 := (Blk.eqL (Rfm.over _ _) hb41_46)
  have hsz47 := Keep.size hk44
  replace jr := jr.k1 hk44
  replace jb1 := jb1.k1 hk44
  replace jb3 := jb3.k1 hk44
  replace jb5 := jb5.k1 hk44
  replace jb7 := jb7.k1 hk44
  replace jb29 := jb29.k1 hk44
  replace jbs36 := jbs36.k1 hk44
  replace jbn37 := jbn37.k1 hk44
  replace jA := jA.keep hk44 (fun q hq hs => by have hs : q = b41 := hs; have g0 := hAr q hq; have g1 := ltjA q hq; omega)
  replace jA2 := jA2.keep hk44 (fun q hq hs => by have hs : q = b41 := hs; have g0 := owA2 q hq; have g1 := ltjA2 q hq; omega)
  replace jAk := jAk.keep hk44 (fun q hq hs => by have hs : q = b41 := hs; have g0 := ownk q hq; have g1 := ltjAk q hq; omega)
  replace jhl := jhl.keep hk44 (fun q hq hs => by have hs : q = b41 := hs; have g0 := hlr q hq; have g1 := hGlt q hq; omega)
  replace jhK0 := Keep.fr jhK0 hk44
  replace jR := jR.keep hk44 (fun q hq hs => by have hs : q = b41 := hs; have g0 := hHko q hq; have g1 := lt39 q hq; omega)
  replace jV := jV.keep hk44 (fun q hq hs => by have hs : q = b41 := hs; have g0 := hFko q hq; have g1 := lt40 q hq; omega)
  replace hfen := Keep.fresh hfen hk44 (by intro i hi hs; have hs2 : i = b41 := hs; show _ ∨ _; omega)
  refine OI_end rfl ?_
  refine X_begin2 hfen ?_
  intro W2 hk2 ⟨r2, hr2⟩ hD2
  have hsz48 := Keep.size hk2
  replace jr := Blk.quiet jr hk2
  replace jb1 := Blk.quiet jb1 hk2
  replace jb3 := Blk.quiet jb3 hk2
  replace jb5 := Blk.quiet jb5 hk2
  replace jb7 := Blk.quiet jb7 hk2
  replace jb29 := Blk.quiet jb29 hk2
  replace jbs36 := Blk.quiet jbs36 hk2
  replace jbn37 := Blk.quiet jbn37 hk2
  replace hb41_46 := Blk.quiet hb41_46 hk2
  replace jA := jA.quiet hk2
  replace jA2 := jA2.quiet hk2
  replace jAk := jAk.quiet hk2
  replace jhl := jhl.quiet hk2
  replace jhK0 := Keep.quiet jhK0 hk2 (by omega)
  replace jR := jR.quiet hk2
  replace jV := jV.quiet hk2
  have hzhk2 := Keep.size hk2
  have hfenb : Keep (fen w33.heap.size M1) W2 W2 := Keep.refl _ _
  have hzhfenb := Keep.size hfenb
  refine V_block ?_
  refine V_seq ?_
  refine Vr ?_
  refine On 1 [4, 5, 6, 7, 10, 11, 12, 43] ?_
  refine Oc 3 (.tmp 43) 0 (nt x.state) (some 44) hb41_46 rfl ?_
  refine Ose [(4, pt b1), (5, pt b3), (6, pt b5), (7, pt b7), (10, pt b29), (11, nt (k : Int)), (12, pt b41), (45, .bool (!(decide (x.state = 1))))] ?_
  refine V_not (x.state = 1) (by kernel_rfl) (fun hc49 => ?_) (fun hc49 => ?_)
  ·
   refine V_exit ?_
   refine X_exit_then ?_
   refine X_exit_here ?_
   have hq9 := hstp.trans (step_skip hc49)
   exact fun a _ => ⟨hfenb, Ak, capk, Hk, Fk, jr, jb1, jb3, jb5, jb7, jbs36, jbn37, jA, jA2, jhl, jhK0, by rw [hq9]; exact jb29, by rw [hq9]; exact jAk, by rw [hq9]; exact jR, by rw [hq9]; exact jV, ownk, (fun q hq => by have h1 := hHko q hq; have h2 := lt39 q hq; omega), hHkr, (fun q hq => by have h1 := hFko q hq; have h2 := lt40 q hq; omega), hFkr, dHF, dHG, dFG, dFA2, dFA, dAkH, dAkF⟩
  refine V_skip ?_
  refine X_then ?_
  refine V_seqJ (fun wI e => ∃ b13 : Nat, (Blk wI b13 (Rfm.cells (decY ts x (tallyT ((svcK ts (tot xs) now r1 ⟨s, r1, []⟩ k).s) (k : Int)) (tot xs) now)) 57) ∧ (W2.heap.size ≤ b13) ∧ Keep none_ W2 wI ∧ e = [(4, pt b1), (6, pt b5), (7, pt b7), (10, pt b29), (11, nt (k : Int)), (13, pt b13), (14, nt (decE ts x (tallyT ((svcK ts (tot xs) now r1 ⟨s, r1, []⟩ k).s) (k : Int)) (tot xs) now))]) ?_ ?_
  ·
   have hk50 : Keep none_ W2 W2 := Keep.refl _ _
   refine V_draws (acts [4, 6, 8, 12, 13]) none_ [[2, 3, 4, 5, 6, 0, 1, 7, 8, 12, 9, 10, 13, 11, 14], [2, 3, 4, 5, 6, 12, 0, 1, 7, 8, 9, 10, 13, 11, 14], [2, 3, 4, 12, 5, 6, 0, 1, 7, 8, 9, 10, 13, 11, 14], [12, 2, 3, 4, 5, 6, 0, 1, 7, 8, 9, 10, 13, 11, 14]] (by kernel_rfl) (by repeat first | exact (by first | exact sure_postM | exact sure_rQ2 | exact sure_no) | refine sure_then ?_ | refine sure_block ?_ | refine sure_join ?_) (by kernel_rfl) ?_
   intro w52 hk51 he53 L hL54
   have hsz55 := Keep.size hk51
   replace jr := jr.k0 hk51
   replace jb1 := jb1.k0 hk51
   replace jb3 := jb3.k0 hk51
   replace jb5 := jb5.k0 hk51
   replace jb7 := jb7.k0 hk51
   replace jb29 := jb29.k0 hk51
   replace jbs36 := jbs36.k0 hk51
   replace jbn37 := jbn37.k0 hk51
   replace hb41_46 := hb41_46.k0 hk51
   replace jA := jA.keep0 hk51
   replace jA2 := jA2.keep0 hk51
   replace jAk := jAk.keep0 hk51
   replace jhl := jhl.keep hk51 nk
   replace jhK0 := jhK0.tn hk51
   replace jR := jR.keep hk51 nk
   replace jV := jV.keep hk51 nk
   replace hfenb := hfenb.tn hk51
   replace hk50 := hk50.tn hk51
   have qjr := jr
   have qjb1 := jb1
   have qjb3 := jb3
   have qjb5 := jb5
   have qjb7 := jb7
   have qjb29 := jb29
   have qjbs36 := jbs36
   have qjbn37 := jbn37
   have qhb41_46 := hb41_46
   have K56 : Keep none_ w52 w52 := Keep.refl _ _
   simp only [List.mem_cons, List.not_mem_nil, or_false] at hL54
   rcases hL54 with rfl | rfl | rfl | rfl
   ·
    refine Gc0 33 (.tmp 6) 0 (pt v) (some 49) qjb5 rfl ?_
    refine Gs [4, 5, 6, 0, 1, 7, 8, 12, 9, 10, 13, 11, 14] [(4, pt b1), (5, pt b3), (6, pt b5), (7, pt b7), (10, pt b29), (11, nt (k : Int)), (12, pt b41), (49, pt v), (50, nt (k : Int))] ?_
    refine Gk (kl 32 #[(.tmp 49), (.tmp 50)] #[33, 3]) 32 #[pt v, nt (k : Int)] (some 51) (tally_spec Fk v ((svcK ts (tot xs) now r1 ⟨s, r1, []⟩ k).s) (k : Int) _ (jV).1) ?_
    rintro _ w59 ⟨rfl, hk60⟩
    have K61 := K56.tr (Keep.ofNone hk60)
    refine ⟨_, rfl, K61, ?_⟩
    have hzK61 := Keep.size K61
    have hsz62 := Keep.size hk60
    replace jr := jr.k0 hk60
    replace jb1 := jb1.k0 hk60
    replace jb3 := jb3.k0 hk60
    replace jb5 := jb5.k0 hk60
    replace jb7 := jb7.k0 hk60
    replace jb29 := jb29.k0 hk60
    replace jbs36 := jbs36.k0 hk60
    replace jbn37 := jbn37.k0 hk60
    replace hb41_46 := hb41_46.k0 hk60
    replace jA := jA.keep0 hk60
    replace jA2 := jA2.keep0 hk60
    replace jAk := jAk.keep0 hk60
    replace jhl := jhl.keep hk60 nk
    replace jhK0 := jhK0.tn hk60
    replace jR := jR.keep hk60 nk
    replace jV := jV.keep hk60 nk
    replace hfenb := hfenb.tn hk60
    replace hk50 := hk50.tn hk60
    refine Gc0 32 (.tmp 5) 0 (pt l) (some 52) qjb3 rfl ?_
    refine Gk (kl 51 #[(.tmp 52)] #[32]) 51 #[pt l] (some 53) (issued_spec G l xs cs _ jhl) ?_
    rintro _ w65 ⟨rfl, hk66⟩
    have K67 := K61.tr (Keep.ofNone hk66)
    refine ⟨_, rfl, K67, ?_⟩
    have hzK67 := Keep.size K67
    have hsz68 := Keep.size hk66
    replace jr := jr.k0 hk66
    replace jb1 := jb1.k0 hk66
    replace jb3 := jb3.k0 hk66
    replace jb5 := jb5.k0 hk66
    replace jb7 := jb7.k0 hk66
    replace jb29 := jb29.k0 hk66
    replace jbs36 := jbs36.k0 hk66
    replace jbn37 := jbn37.k0 hk66
    replace hb41_46 := hb41_46.k0 hk66
    replace jA := jA.keep0 hk66
    replace jA2 := jA2.keep0 hk66
    replace jAk := jAk.keep0 hk66
    replace jhl := jhl.keep hk66 nk
    replace jhK0 := jhK0.tn hk66
    replace jR := jR.keep hk66 nk
    replace jV := jV.keep hk66 nk
    replace hfenb := hfenb.tn hk66
    replace hk50 := hk50.tn hk66
    refine Gc0 34 (.tmp 4) 0 (pt r) (some 47) qjb1 rfl ?_
    refine Ga 57 (.tmp 12) 0 (Rfm.cells x) (some 48) 45 qhb41_46 id (take_all (Rfm.len _)) (Rfm.len _) ?_
    refine Gc0 3 (.tmp 7) 0 (nt now) (some 54) qjb7 rfl ?_
    refine Gk (kl 50 #[(.tmp 47), (.tmp 48), (.tmp 51), (.tmp 53), (.tmp 54)] #[34, 57, 55, 3, 3]) 50 #[pt r, .agg (Rfm.cells x).toArray, .agg (Tly.cells (tallyT ((svcK ts (tot xs) now r1 ⟨s, r1, []⟩ k).s) (k : Int))).toArray, nt (tot xs), nt now] (some 55) (decides_spec Hk r g ts (svcK ts (tot xs) now r1 ⟨s, r1, []⟩ k).rs x (tallyT ((svcK ts (tot xs) now r1 ⟨s, r1, []⟩ k).s) (k : Int)) (tot xs) now _ jR hxt) ?_
    rintro _ w69 ⟨rfl, hk70⟩
    have K71 := K67.tr (Keep.ofNone hk70)
    refine ⟨_, rfl, K71, ?_⟩
    have hzK71 := Keep.size K71
    have hsz72 := Keep.size hk70
    replace jr := jr.k0 hk70
    replace jb1 := jb1.k0 hk70
    replace jb3 := jb3.k0 hk70
    replace jb5 := jb5.k0 hk70
    replace jb7 := jb7.k0 hk70
    replace jb29 := jb29.k0 hk70
    replace jbs36 := jbs36.k0 hk70
    replace jbn37 := jbn37.k0 hk70
    replace hb41_46 := hb41_46.k0 hk70
    replace jA := jA.keep0 hk70
    replace jA2 := jA2.keep0 hk70
    replace jAk := jAk.keep0 hk70
    replace jhl := jhl.keep hk70 nk
    replace jhK0 := jhK0.tn hk70
    replace jR := jR.keep hk70 nk
    replace jV := jV.keep hk70 nk
    replace hfenb := hfenb.tn hk70
    replace hk50 := hk50.tn hk70
    refine GI_alloc 57 (.agg (Rfm.cells Rfm.zero).toArray) (Rfm.cells Rfm.zero) (some 13) (by kernel_rfl) (by kernel_rfl) K71 (by kernel_rfl) (by kernel_rfl) ?_
    intro b73 w73 e73 hb73 k73 z73 K74
    have hsz75 := Keep.size k73
    replace jr := jr.k0 k73
    replace jb1 := jb1.k0 k73
    replace jb3 := jb3.k0 k73
    replace jb5 := jb5.k0 k73
    replace jb7 := jb7.k0 k73
    replace jb29 := jb29.k0 k73
    replace jbs36 := jbs36.k0 k73
    replace jbn37 := jbn37.k0 k73
    replace hb41_46 := hb41_46.k0 k73
    replace jA := jA.keep0 k73
    replace jA2 := jA2.keep0 k73
    replace jAk := jAk.keep0 k73
    replace jhl := jhl.keep k73 nk
    replace jhK0 := jhK0.tn k73
    replace jR := jR.keep k73 nk
    replace jV := jV.keep k73 nk
    replace hfenb := hfenb.tn k73
    replace hk50 := hk50.tn k73
    have hb73lt := hb73.lt
    refine Gn [13, 11, 14] [4, 6, 7, 10, 11, 13, 46, 56] ?_
    refine GI_set (m := 45) (kd := true) 57 (.tmp 13) (.tmp 56) 0 (.agg (Rfm.cells (decY ts x (tallyT ((svcK ts (tot xs) now r1 ⟨s, r1, []⟩ k).s) (k : Int)) (tot xs) now)).toArray) (Rfm.cells (decY ts x (tallyT ((svcK ts (tot xs) now r1 ⟨s, r1, []⟩ k).s) (k : Int)) (tot xs) now)) none (by kernel_rfl) (by kernel_rfl) (by kernel_rfl) (by kernel_rfl) hb73 (by kernel_rfl) rfl (Rfm.len _) (Nat.le_of_ble_eq_true (by kernel_rfl)) (Rfm.one _) K74 (fun hh => absurd hh (by omega)) ?_
    intro w76 hb73_79 hk77 hz78 K80
    replace hb73_79 : Blk w76 b73 (Rfm.cells (decY ts x (tallyT ((svcK ts (tot xs) now r1 ⟨s, r1, []⟩ k).s) (k : Int)) (tot xs) now)) 57 := (Blk.eqL (Rfm.over _ _) hb73_79)
    have hsz81 := Keep.size hk77
    replace jr := jr.k1 hk77
    replace jb1 := jb1.k1 hk77
    replace jb3 := jb3.k1 hk77
    replace jb5 := jb5.k1 hk77
    replace jb7 := jb7.k1 hk77
    replace jb29 := jb29.k1 hk77
    replace jbs36 := jbs36.k1 hk77
    replace jbn37 := jbn37.k1 hk77
    replace hb41_46 := hb41_46.k1 hk77
    replace jA := jA.keep hk77 (fun q hq hs => by have hs : q = b73 := hs; have g0 := hAr q hq; have g1 := ltjA q hq; omega)
    replace jA2 := jA2.keep hk77 (fun q hq hs => by have hs : q = b73 := hs; have g0 := owA2 q hq; have g1 := ltjA2 q hq; omega)
    replace jAk := jAk.keep hk77 (fun q hq hs => by have hs : q = b73 := hs; have g0 := ownk q hq; have g1 := ltjAk q hq; omega)
    replace jhl := jhl.keep hk77 (fun q hq hs => by have hs : q = b73 := hs; have g0 := hlr q hq; have g1 := hGlt q hq; omega)
    replace jhK0 := Keep.fr jhK0 hk77
    replace jR := jR.keep hk77 (fun q hq hs => by have hs : q = b73 := hs; have g0 := hHko q hq; have g1 := lt39 q hq; omega)
    replace jV := jV.keep hk77 (fun q hq hs => by have hs : q = b73 := hs; have g0 := hFko q hq; have g1 := lt40 q hq; omega)
    replace hfenb := Keep.fresh hfenb hk77 (by intro i hi hs; have hs2 : i = b73 := hs; show _ ∨ _; omega)
    replace hk50 := Keep.fr hk50 hk77
    refine Gs [] [(4, pt b1), (6, pt b5), (7, pt b7), (10, pt b29), (11, nt (k : Int)), (13, pt b73), (14, nt (decE ts x (tallyT ((svcK ts (tot xs) now r1 ⟨s, r1, []⟩ k).s) (k : Int)) (tot xs) now))] ?_
    refine GI_end ?_
    exact X_join [(4, pt b1), (6, pt b5), (7, pt b7), (10, pt b29), (11, nt (k : Int)), (13, pt b73), (14, nt (decE ts x (tallyT ((svcK ts (tot xs) now r1 ⟨s, r1, []⟩ k).s) (k : Int)) (tot xs) now))] rfl ⟨b73, hb73_79, by omega, hk50, rfl⟩
   ·
    refine Gc0 33 (.tmp 6) 0 (pt v) (some 49) qjb5 rfl ?_
    refine Gs [4, 5, 6, 12, 0, 1, 7, 8, 9, 10, 13, 11, 14] [(4, pt b1), (5, pt b3), (6, pt b5), (7, pt b7), (10, pt b29), (11, nt (k : Int)), (12, pt b41), (49, pt v), (50, nt (k : Int))] ?_
    refine Gk (kl 32 #[(.tmp 49), (.tmp 50)] #[33, 3]) 32 #[pt v, nt (k : Int)] (some 51) (tally_spec Fk v ((svcK ts (tot xs) now r1 ⟨s, r1, []⟩ k).s) (k : Int) _ (jV).1) ?_
    rintro _ w84 ⟨rfl, hk85⟩
    have K86 := K56.tr (Keep.ofNone hk85)
    refine ⟨_, rfl, K86, ?_⟩
    have hzK86 := Keep.size K86
    have hsz87 := Keep.size hk85
    replace jr := jr.k0 hk85
    replace jb1 := jb1.k0 hk85
    replace jb3 := jb3.k0 hk85
    replace jb5 := jb5.k0 hk85
    replace jb7 := jb7.k0 hk85
    replace jb29 := jb29.k0 hk85
    replace jbs36 := jbs36.k0 hk85
    replace jbn37 := jbn37.k0 hk85
    replace hb41_46 := hb41_46.k0 hk85
    replace jA := jA.keep0 hk85
    replace jA2 := jA2.keep0 hk85
    replace jAk := jAk.keep0 hk85
    replace jhl := jhl.keep hk85 nk
    replace jhK0 := jhK0.tn hk85
    replace jR := jR.keep hk85 nk
    replace jV := jV.keep hk85 nk
    replace hfenb := hfenb.tn hk85
    replace hk50 := hk50.tn hk85
    refine Gc0 32 (.tmp 5) 0 (pt l) (some 52) qjb3 rfl ?_
    refine Gk (kl 51 #[(.tmp 52)] #[32]) 51 #[pt l] (some 53) (issued_spec G l xs cs _ jhl) ?_
    rintro _ w90 ⟨rfl, hk91⟩
    have K92 := K86.tr (Keep.ofNone hk91)
    refine ⟨_, rfl, K92, ?_⟩
    have hzK92 := Keep.size K92
    have hsz93 := Keep.size hk91
    replace jr := jr.k0 hk91
    replace jb1 := jb1.k0 hk91
    replace jb3 := jb3.k0 hk91
    replace jb5 := jb5.k0 hk91
    replace jb7 := jb7.k0 hk91
    replace jb29 := jb29.k0 hk91
    replace jbs36 := jbs36.k0 hk91
    replace jbn37 := jbn37.k0 hk91
    replace hb41_46 := hb41_46.k0 hk91
    replace jA := jA.keep0 hk91
    replace jA2 := jA2.keep0 hk91
    replace jAk := jAk.keep0 hk91
    replace jhl := jhl.keep hk91 nk
    replace jhK0 := jhK0.tn hk91
    replace jR := jR.keep hk91 nk
    replace jV := jV.keep hk91 nk
    replace hfenb := hfenb.tn hk91
    replace hk50 := hk50.tn hk91
    refine GI_alloc 57 (.agg (Rfm.cells Rfm.zero).toArray) (Rfm.cells Rfm.zero) (some 13) (by kernel_rfl) (by kernel_rfl) K92 (by kernel_rfl) (by kernel_rfl) ?_
    intro b94 w94 e94 hb94 k94 z94 K95
    have hsz96 := Keep.size k94
    replace jr := jr.k0 k94
    replace jb1 := jb1.k0 k94
    replace jb3 := jb3.k0 k94
    replace jb5 := jb5.k0 k94
    replace jb7 := jb7.k0 k94
    replace jb29 := jb29.k0 k94
    replace jbs36 := jbs36.k0 k94
    replace jbn37 := jbn37.k0 k94
    replace hb41_46 := hb41_46.k0 k94
    replace jA := jA.keep0 k94
    replace jA2 := jA2.keep0 k94
    replace jAk := jAk.keep0 k94
    replace jhl := jhl.keep k94 nk
    replace jhK0 := jhK0.tn k94
    replace jR := jR.keep k94 nk
    replace jV := jV.keep k94 nk
    replace hfenb := hfenb.tn k94
    replace hk50 := hk50.tn k94
    have hb94lt := hb94.lt
    refine Gc0 34 (.tmp 4) 0 (pt r) (some 47) qjb1 rfl ?_
    refine Ga 57 (.tmp 12) 0 (Rfm.cells x) (some 48) 45 qhb41_46 id (take_all (Rfm.len _)) (Rfm.len _) ?_
    refine Gc0 3 (.tmp 7) 0 (nt now) (some 54) qjb7 rfl ?_
    refine Gk (kl 50 #[(.tmp 47), (.tmp 48), (.tmp 51), (.tmp 53), (.tmp 54)] #[34, 57, 55, 3, 3]) 50 #[pt r, .agg (Rfm.cells x).toArray, .agg (Tly.cells (tallyT ((svcK ts (tot xs) now r1 ⟨s, r1, []⟩ k).s) (k : Int))).toArray, nt (tot xs), nt now] (some 55) (decides_spec Hk r g ts (svcK ts (tot xs) now r1 ⟨s, r1, []⟩ k).rs x (tallyT ((svcK ts (tot xs) now r1 ⟨s, r1, []⟩ k).s) (k : Int)) (tot xs) now _ jR hxt) ?_
    rintro _ w97 ⟨rfl, hk98⟩
    have K99 := K95.tr (Keep.ofNone hk98)
    refine ⟨_, rfl, K99, ?_⟩
    have hzK99 := Keep.size K99
    have hsz100 := Keep.size hk98
    replace jr := jr.k0 hk98
    replace jb1 := jb1.k0 hk98
    replace jb3 := jb3.k0 hk98
    replace jb5 := jb5.k0 hk98
    replace jb7 := jb7.k0 hk98
    replace jb29 := jb29.k0 hk98
    replace jbs36 := jbs36.k0 hk98
    replace jbn37 := jbn37.k0 hk98
    replace hb41_46 := hb41_46.k0 hk98
    replace hb94 := hb94.k0 hk98
    replace jA := jA.keep0 hk98
    replace jA2 := jA2.keep0 hk98
    replace jAk := jAk.keep0 hk98
    replace jhl := jhl.keep hk98 nk
    replace jhK0 := jhK0.tn hk98
    replace jR := jR.keep hk98 nk
    replace jV := jV.keep hk98 nk
    replace hfenb := hfenb.tn hk98
    replace hk50 := hk50.tn hk98
    refine Gn [13, 11, 14] [4, 6, 7, 10, 11, 13, 46, 56] ?_
    refine GI_set (m := 45) (kd := true) 57 (.tmp 13) (.tmp 56) 0 (.agg (Rfm.cells (decY ts x (tallyT ((svcK ts (tot xs) now r1 ⟨s, r1, []⟩ k).s) (k : Int)) (tot xs) now)).toArray) (Rfm.cells (decY ts x (tallyT ((svcK ts (tot xs) now r1 ⟨s, r1, []⟩ k).s) (k : Int)) (tot xs) now)) none (by kernel_rfl) (by kernel_rfl) (by kernel_rfl) (by kernel_rfl) hb94 (by kernel_rfl) rfl (Rfm.len _) (Nat.le_of_ble_eq_true (by kernel_rfl)) (Rfm.one _) K99 (fun hh => absurd hh (by omega)) ?_
    intro w101 hb94_104 hk102 hz103 K105
    replace hb94_104 : Blk w101 b94 (Rfm.cells (decY ts x (tallyT ((svcK ts (tot xs) now r1 ⟨s, r1, []⟩ k).s) (k : Int)) (tot xs) now)) 57 := (Blk.eqL (Rfm.over _ _) hb94_104)
    have hsz106 := Keep.size hk102
    replace jr := jr.k1 hk102
    replace jb1 := jb1.k1 hk102
    replace jb3 := jb3.k1 hk102
    replace jb5 := jb5.k1 hk102
    replace jb7 := jb7.k1 hk102
    replace jb29 := jb29.k1 hk102
    replace jbs36 := jbs36.k1 hk102
    replace jbn37 := jbn37.k1 hk102
    replace hb41_46 := hb41_46.k1 hk102
    replace jA := jA.keep hk102 (fun q hq hs => by have hs : q = b94 := hs; have g0 := hAr q hq; have g1 := ltjA q hq; omega)
    replace jA2 := jA2.keep hk102 (fun q hq hs => by have hs : q = b94 := hs; have g0 := owA2 q hq; have g1 := ltjA2 q hq; omega)
    replace jAk := jAk.keep hk102 (fun q hq hs => by have hs : q = b94 := hs; have g0 := ownk q hq; have g1 := ltjAk q hq; omega)
    replace jhl := jhl.keep hk102 (fun q hq hs => by have hs : q = b94 := hs; have g0 := hlr q hq; have g1 := hGlt q hq; omega)
    replace jhK0 := Keep.fr jhK0 hk102
    replace jR := jR.keep hk102 (fun q hq hs => by have hs : q = b94 := hs; have g0 := hHko q hq; have g1 := lt39 q hq; omega)
    replace jV := jV.keep hk102 (fun q hq hs => by have hs : q = b94 := hs; have g0 := hFko q hq; have g1 := lt40 q hq; omega)
    replace hfenb := Keep.fresh hfenb hk102 (by intro i hi hs; have hs2 : i = b94 := hs; show _ ∨ _; omega)
    replace hk50 := Keep.fr hk50 hk102
    refine Gs [] [(4, pt b1), (6, pt b5), (7, pt b7), (10, pt b29), (11, nt (k : Int)), (13, pt b94), (14, nt (decE ts x (tallyT ((svcK ts (tot xs) now r1 ⟨s, r1, []⟩ k).s) (k : Int)) (tot xs) now))] ?_
    refine GI_end ?_
    exact X_join [(4, pt b1), (6, pt b5), (7, pt b7), (10, pt b29), (11, nt (k : Int)), (13, pt b94), (14, nt (decE ts x (tallyT ((svcK ts (tot xs) now r1 ⟨s, r1, []⟩ k).s) (k : Int)) (tot xs) now))] rfl ⟨b94, hb94_104, by omega, hk50, rfl⟩
   ·
    refine Gc0 33 (.tmp 6) 0 (pt v) (some 49) qjb5 rfl ?_
    refine Gs [4, 12, 5, 6, 0, 1, 7, 8, 9, 10, 13, 11, 14] [(4, pt b1), (5, pt b3), (6, pt b5), (7, pt b7), (10, pt b29), (11, nt (k : Int)), (12, pt b41), (49, pt v), (50, nt (k : Int))] ?_
    refine Gk (kl 32 #[(.tmp 49), (.tmp 50)] #[33, 3]) 32 #[pt v, nt (k : Int)] (some 51) (tally_spec Fk v ((svcK ts (tot xs) now r1 ⟨s, r1, []⟩ k).s) (k : Int) _ (jV).1) ?_
    rintro _ w109 ⟨rfl, hk110⟩
    have K111 := K56.tr (Keep.ofNone hk110)
    refine ⟨_, rfl, K111, ?_⟩
    have hzK111 := Keep.size K111
    have hsz112 := Keep.size hk110
    replace jr := jr.k0 hk110
    replace jb1 := jb1.k0 hk110
    replace jb3 := jb3.k0 hk110
    replace jb5 := jb5.k0 hk110
    replace jb7 := jb7.k0 hk110
    replace jb29 := jb29.k0 hk110
    replace jbs36 := jbs36.k0 hk110
    replace jbn37 := jbn37.k0 hk110
    replace hb41_46 := hb41_46.k0 hk110
    replace jA := jA.keep0 hk110
    replace jA2 := jA2.keep0 hk110
    replace jAk := jAk.keep0 hk110
    replace jhl := jhl.keep hk110 nk
    replace jhK0 := jhK0.tn hk110
    replace jR := jR.keep hk110 nk
    replace jV := jV.keep hk110 nk
    replace hfenb := hfenb.tn hk110
    replace hk50 := hk50.tn hk110
    refine GI_alloc 57 (.agg (Rfm.cells Rfm.zero).toArray) (Rfm.cells Rfm.zero) (some 13) (by kernel_rfl) (by kernel_rfl) K111 (by kernel_rfl) (by kernel_rfl) ?_
    intro b113 w113 e113 hb113 k113 z113 K114
    have hsz115 := Keep.size k113
    replace jr := jr.k0 k113
    replace jb1 := jb1.k0 k113
    replace jb3 := jb3.k0 k113
    replace jb5 := jb5.k0 k113
    replace jb7 := jb7.k0 k113
    replace jb29 := jb29.k0 k113
    replace jbs36 := jbs36.k0 k113
    replace jbn37 := jbn37.k0 k113
    replace hb41_46 := hb41_46.k0 k113
    replace jA := jA.keep0 k113
    replace jA2 := jA2.keep0 k113
    replace jAk := jAk.keep0 k113
    replace jhl := jhl.keep k113 nk
    replace jhK0 := jhK0.tn k113
    replace jR := jR.keep k113 nk
    replace jV := jV.keep k113 nk
    replace hfenb := hfenb.tn k113
    replace hk50 := hk50.tn k113
    have hb113lt := hb113.lt
    refine Gc0 32 (.tmp 5) 0 (pt l) (some 52) qjb3 rfl ?_
    refine Gk (kl 51 #[(.tmp 52)] #[32]) 51 #[pt l] (some 53) (issued_spec G l xs cs _ jhl) ?_
    rintro _ w118 ⟨rfl, hk119⟩
    have K120 := K114.tr (Keep.ofNone hk119)
    refine ⟨_, rfl, K120, ?_⟩
    have hzK120 := Keep.size K120
    have hsz121 := Keep.size hk119
    replace jr := jr.k0 hk119
    replace jb1 := jb1.k0 hk119
    replace jb3 := jb3.k0 hk119
    replace jb5 := jb5.k0 hk119
    replace jb7 := jb7.k0 hk119
    replace jb29 := jb29.k0 hk119
    replace jbs36 := jbs36.k0 hk119
    replace jbn37 := jbn37.k0 hk119
    replace hb41_46 := hb41_46.k0 hk119
    replace hb113 := hb113.k0 hk119
    replace jA := jA.keep0 hk119
    replace jA2 := jA2.keep0 hk119
    replace jAk := jAk.keep0 hk119
    replace jhl := jhl.keep hk119 nk
    replace jhK0 := jhK0.tn hk119
    replace jR := jR.keep hk119 nk
    replace jV := jV.keep hk119 nk
    replace hfenb := hfenb.tn hk119
    replace hk50 := hk50.tn hk119
    refine Gc0 34 (.tmp 4) 0 (pt r) (some 47) qjb1 rfl ?_
    refine Ga 57 (.tmp 12) 0 (Rfm.cells x) (some 48) 45 qhb41_46 id (take_all (Rfm.len _)) (Rfm.len _) ?_
    refine Gc0 3 (.tmp 7) 0 (nt now) (some 54) qjb7 rfl ?_
    refine Gk (kl 50 #[(.tmp 47), (.tmp 48), (.tmp 51), (.tmp 53), (.tmp 54)] #[34, 57, 55, 3, 3]) 50 #[pt r, .agg (Rfm.cells x).toArray, .agg (Tly.cells (tallyT ((svcK ts (tot xs) now r1 ⟨s, r1, []⟩ k).s) (k : Int))).toArray, nt (tot xs), nt now] (some 55) (decides_spec Hk r g ts (svcK ts (tot xs) now r1 ⟨s, r1, []⟩ k).rs x (tallyT ((svcK ts (tot xs) now r1 ⟨s, r1, []⟩ k).s) (k : Int)) (tot xs) now _ jR hxt) ?_
    rintro _ w122 ⟨rfl, hk123⟩
    have K124 := K120.tr (Keep.ofNone hk123)
    refine ⟨_, rfl, K124, ?_⟩
    have hzK124 := Keep.size K124
    have hsz125 := Keep.size hk123
    replace jr := jr.k0 hk123
    replace jb1 := jb1.k0 hk123
    replace jb3 := jb3.k0 hk123
    replace jb5 := jb5.k0 hk123
    replace jb7 := jb7.k0 hk123
    replace jb29 := jb29.k0 hk123
    replace jbs36 := jbs36.k0 hk123
    replace jbn37 := jbn37.k0 hk123
    replace hb41_46 := hb41_46.k0 hk123
    replace hb113 := hb113.k0 hk123
    replace jA := jA.keep0 hk123
    replace jA2 := jA2.keep0 hk123
    replace jAk := jAk.keep0 hk123
    replace jhl := jhl.keep hk123 nk
    replace jhK0 := jhK0.tn hk123
    replace jR := jR.keep hk123 nk
    replace jV := jV.keep hk123 nk
    replace hfenb := hfenb.tn hk123
    replace hk50 := hk50.tn hk123
    refine Gn [13, 11, 14] [4, 6, 7, 10, 11, 13, 46, 56] ?_
    refine GI_set (m := 45) (kd := true) 57 (.tmp 13) (.tmp 56) 0 (.agg (Rfm.cells (decY ts x (tallyT ((svcK ts (tot xs) now r1 ⟨s, r1, []⟩ k).s) (k : Int)) (tot xs) now)).toArray) (Rfm.cells (decY ts x (tallyT ((svcK ts (tot xs) now r1 ⟨s, r1, []⟩ k).s) (k : Int)) (tot xs) now)) none (by kernel_rfl) (by kernel_rfl) (by kernel_rfl) (by kernel_rfl) hb113 (by kernel_rfl) rfl (Rfm.len _) (Nat.le_of_ble_eq_true (by kernel_rfl)) (Rfm.one _) K124 (fun hh => absurd hh (by omega)) ?_
    intro w126 hb113_129 hk127 hz128 K130
    replace hb113_129 : Blk w126 b113 (Rfm.cells (decY ts x (tallyT ((svcK ts (tot xs) now r1 ⟨s, r1, []⟩ k).s) (k : Int)) (tot xs) now)) 57 := (Blk.eqL (Rfm.over _ _) hb113_129)
    have hsz131 := Keep.size hk127
    replace jr := jr.k1 hk127
    replace jb1 := jb1.k1 hk127
    replace jb3 := jb3.k1 hk127
    replace jb5 := jb5.k1 hk127
    replace jb7 := jb7.k1 hk127
    replace jb29 := jb29.k1 hk127
    replace jbs36 := jbs36.k1 hk127
    replace jbn37 := jbn37.k1 hk127
    replace hb41_46 := hb41_46.k1 hk127
    replace jA := jA.keep hk127 (fun q hq hs => by have hs : q = b113 := hs; have g0 := hAr q hq; have g1 := ltjA q hq; omega)
    replace jA2 := jA2.keep hk127 (fun q hq hs => by have hs : q = b113 := hs; have g0 := owA2 q hq; have g1 := ltjA2 q hq; omega)
    replace jAk := jAk.keep hk127 (fun q hq hs => by have hs : q = b113 := hs; have g0 := ownk q hq; have g1 := ltjAk q hq; omega)
    replace jhl := jhl.keep hk127 (fun q hq hs => by have hs : q = b113 := hs; have g0 := hlr q hq; have g1 := hGlt q hq; omega)
    replace jhK0 := Keep.fr jhK0 hk127
    replace jR := jR.keep hk127 (fun q hq hs => by have hs : q = b113 := hs; have g0 := hHko q hq; have g1 := lt39 q hq; omega)
    replace jV := jV.keep hk127 (fun q hq hs => by have hs : q = b113 := hs; have g0 := hFko q hq; have g1 := lt40 q hq; omega)
    replace hfenb := Keep.fresh hfenb hk127 (by intro i hi hs; have hs2 : i = b113 := hs; show _ ∨ _; omega)
    replace hk50 := Keep.fr hk50 hk127
    refine Gs [] [(4, pt b1), (6, pt b5), (7, pt b7), (10, pt b29), (11, nt (k : Int)), (13, pt b113), (14, nt (decE ts x (tallyT ((svcK ts (tot xs) now r1 ⟨s, r1, []⟩ k).s) (k : Int)) (tot xs) now))] ?_
    refine GI_end ?_
    exact X_join [(4, pt b1), (6, pt b5), (7, pt b7), (10, pt b29), (11, nt (k : Int)), (13, pt b113), (14, nt (decE ts x (tallyT ((svcK ts (tot xs) now r1 ⟨s, r1, []⟩ k).s) (k : Int)) (tot xs) now))] rfl ⟨b113, hb113_129, by omega, hk50, rfl⟩
   ·
    refine GI_alloc 57 (.agg (Rfm.cells Rfm.zero).toArray) (Rfm.cells Rfm.zero) (some 13) (by kernel_rfl) (by kernel_rfl) K56 (by kernel_rfl) (by kernel_rfl) ?_
    intro b132 w132 e132 hb132 k132 z132 K133
    have hsz134 := Keep.size k132
    replace jr := jr.k0 k132
    replace jb1 := jb1.k0 k132
    replace jb3 := jb3.k0 k132
    replace jb5 := jb5.k0 k132
    replace jb7 := jb7.k0 k132
    replace jb29 := jb29.k0 k132
    replace jbs36 := jbs36.k0 k132
    replace jbn37 := jbn37.k0 k132
    replace hb41_46 := hb41_46.k0 k132
    replace jA := jA.keep0 k132
    replace jA2 := jA2.keep0 k132
    replace jAk := jAk.keep0 k132
    replace jhl := jhl.keep k132 nk
    replace jhK0 := jhK0.tn k132
    replace jR := jR.keep k132 nk
    replace jV := jV.keep k132 nk
    replace hfenb := hfenb.tn k132
    replace hk50 := hk50.tn k132
    have hb132lt := hb132.lt
    refine Gc0 33 (.tmp 6) 0 (pt v) (some 49) qjb5 rfl ?_
    refine Gs [4, 5, 6, 0, 1, 7, 8, 9, 10, 13, 11, 14] [(4, pt b1), (5, pt b3), (6, pt b5), (7, pt b7), (10, pt b29), (11, nt (k : Int)), (12, pt b41), (13, pt b132), (49, pt v), (50, nt (k : Int))] ?_
    refine Gk (kl 32 #[(.tmp 49), (.tmp 50)] #[33, 3]) 32 #[pt v, nt (k : Int)] (some 51) (tally_spec Fk v ((svcK ts (tot xs) now r1 ⟨s, r1, []⟩ k).s) (k : Int) _ (jV).1) ?_
    rintro _ w137 ⟨rfl, hk138⟩
    have K139 := K133.tr (Keep.ofNone hk138)
    refine ⟨_, rfl, K139, ?_⟩
    have hzK139 := Keep.size K139
    have hsz140 := Keep.size hk138
    replace jr := jr.k0 hk138
    replace jb1 := jb1.k0 hk138
    replace jb3 := jb3.k0 hk138
    replace jb5 := jb5.k0 hk138
    replace jb7 := jb7.k0 hk138
    replace jb29 := jb29.k0 hk138
    replace jbs36 := jbs36.k0 hk138
    replace jbn37 := jbn37.k0 hk138
    replace hb41_46 := hb41_46.k0 hk138
    replace hb132 := hb132.k0 hk138
    replace jA := jA.keep0 hk138
    replace jA2 := jA2.keep0 hk138
    replace jAk := jAk.keep0 hk138
    replace jhl := jhl.keep hk138 nk
    replace jhK0 := jhK0.tn hk138
    replace jR := jR.keep hk138 nk
    replace jV := jV.keep hk138 nk
    replace hfenb := hfenb.tn hk138
    replace hk50 := hk50.tn hk138
    refine Gc0 32 (.tmp 5) 0 (pt l) (some 52) qjb3 rfl ?_
    refine Gk (kl 51 #[(.tmp 52)] #[32]) 51 #[pt l] (some 53) (issued_spec G l xs cs _ jhl) ?_
    rintro _ w143 ⟨rfl, hk144⟩
    have K145 := K139.tr (Keep.ofNone hk144)
    refine ⟨_, rfl, K145, ?_⟩
    have hzK145 := Keep.size K145
    have hsz146 := Keep.size hk144
    replace jr := jr.k0 hk144
    replace jb1 := jb1.k0 hk144
    replace jb3 := jb3.k0 hk144
    replace jb5 := jb5.k0 hk144
    replace jb7 := jb7.k0 hk144
    replace jb29 := jb29.k0 hk144
    replace jbs36 := jbs36.k0 hk144
    replace jbn37 := jbn37.k0 hk144
    replace hb41_46 := hb41_46.k0 hk144
    replace hb132 := hb132.k0 hk144
    replace jA := jA.keep0 hk144
    replace jA2 := jA2.keep0 hk144
    replace jAk := jAk.keep0 hk144
    replace jhl := jhl.keep hk144 nk
    replace jhK0 := jhK0.tn hk144
    replace jR := jR.keep hk144 nk
    replace jV := jV.keep hk144 nk
    replace hfenb := hfenb.tn hk144
    replace hk50 := hk50.tn hk144
    refine Gc0 34 (.tmp 4) 0 (pt r) (some 47) qjb1 rfl ?_
    refine Ga 57 (.tmp 12) 0 (Rfm.cells x) (some 48) 45 qhb41_46 id (take_all (Rfm.len _)) (Rfm.len _) ?_
    refine Gc0 3 (.tmp 7) 0 (nt now) (some 54) qjb7 rfl ?_
    refine Gk (kl 50 #[(.tmp 47), (.tmp 48), (.tmp 51), (.tmp 53), (.tmp 54)] #[34, 57, 55, 3, 3]) 50 #[pt r, .agg (Rfm.cells x).toArray, .agg (Tly.cells (tallyT ((svcK ts (tot xs) now r1 ⟨s, r1, []⟩ k).s) (k : Int))).toArray, nt (tot xs), nt now] (some 55) (decides_spec Hk r g ts (svcK ts (tot xs) now r1 ⟨s, r1, []⟩ k).rs x (tallyT ((svcK ts (tot xs) now r1 ⟨s, r1, []⟩ k).s) (k : Int)) (tot xs) now _ jR hxt) ?_
    rintro _ w147 ⟨rfl, hk148⟩
    have K149 := K145.tr (Keep.ofNone hk148)
    refine ⟨_, rfl, K149, ?_⟩
    have hzK149 := Keep.size K149
    have hsz150 := Keep.size hk148
    replace jr := jr.k0 hk148
    replace jb1 := jb1.k0 hk148
    replace jb3 := jb3.k0 hk148
    replace jb5 := jb5.k0 hk148
    replace jb7 := jb7.k0 hk148
    replace jb29 := jb29.k0 hk148
    replace jbs36 := jbs36.k0 hk148
    replace jbn37 := jbn37.k0 hk148
    replace hb41_46 := hb41_46.k0 hk148
    replace hb132 := hb132.k0 hk148
    replace jA := jA.keep0 hk148
    replace jA2 := jA2.keep0 hk148
    replace jAk := jAk.keep0 hk148
    replace jhl := jhl.keep hk148 nk
    replace jhK0 := jhK0.tn hk148
    replace jR := jR.keep hk148 nk
    replace jV := jV.keep hk148 nk
    replace hfenb := hfenb.tn hk148
    replace hk50 := hk50.tn hk148
    refine Gn [13, 11, 14] [4, 6, 7, 10, 11, 13, 46, 56] ?_
    refine GI_set (m := 45) (kd := true) 57 (.tmp 13) (.tmp 56) 0 (.agg (Rfm.cells (decY ts x (tallyT ((svcK ts (tot xs) now r1 ⟨s, r1, []⟩ k).s) (k : Int)) (tot xs) now)).toArray) (Rfm.cells (decY ts x (tallyT ((svcK ts (tot xs) now r1 ⟨s, r1, []⟩ k).s) (k : Int)) (tot xs) now)) none (by kernel_rfl) (by kernel_rfl) (by kernel_rfl) (by kernel_rfl) hb132 (by kernel_rfl) rfl (Rfm.len _) (Nat.le_of_ble_eq_true (by kernel_rfl)) (Rfm.one _) K149 (fun hh => absurd hh (by omega)) ?_
    intro w151 hb132_154 hk152 hz153 K155
    replace hb132_154 : Blk w151 b132 (Rfm.cells (decY ts x (tallyT ((svcK ts (tot xs) now r1 ⟨s, r1, []⟩ k).s) (k : Int)) (tot xs) now)) 57 := (Blk.eqL (Rfm.over _ _) hb132_154)
    have hsz156 := Keep.size hk152
    replace jr := jr.k1 hk152
    replace jb1 := jb1.k1 hk152
    replace jb3 := jb3.k1 hk152
    replace jb5 := jb5.k1 hk152
    replace jb7 := jb7.k1 hk152
    replace jb29 := jb29.k1 hk152
    replace jbs36 := jbs36.k1 hk152
    replace jbn37 := jbn37.k1 hk152
    replace hb41_46 := hb41_46.k1 hk152
    replace jA := jA.keep hk152 (fun q hq hs => by have hs : q = b132 := hs; have g0 := hAr q hq; have g1 := ltjA q hq; omega)
    replace jA2 := jA2.keep hk152 (fun q hq hs => by have hs : q = b132 := hs; have g0 := owA2 q hq; have g1 := ltjA2 q hq; omega)
    replace jAk := jAk.keep hk152 (fun q hq hs => by have hs : q = b132 := hs; have g0 := ownk q hq; have g1 := ltjAk q hq; omega)
    replace jhl := jhl.keep hk152 (fun q hq hs => by have hs : q = b132 := hs; have g0 := hlr q hq; have g1 := hGlt q hq; omega)
    replace jhK0 := Keep.fr jhK0 hk152
    replace jR := jR.keep hk152 (fun q hq hs => by have hs : q = b132 := hs; have g0 := hHko q hq; have g1 := lt39 q hq; omega)
    replace jV := jV.keep hk152 (fun q hq hs => by have hs : q = b132 := hs; have g0 := hFko q hq; have g1 := lt40 q hq; omega)
    replace hfenb := Keep.fresh hfenb hk152 (by intro i hi hs; have hs2 : i = b132 := hs; show _ ∨ _; omega)
    replace hk50 := Keep.fr hk50 hk152
    refine Gs [] [(4, pt b1), (6, pt b5), (7, pt b7), (10, pt b29), (11, nt (k : Int)), (13, pt b132), (14, nt (decE ts x (tallyT ((svcK ts (tot xs) now r1 ⟨s, r1, []⟩ k).s) (k : Int)) (tot xs) now))] ?_
    refine GI_end ?_
    exact X_join [(4, pt b1), (6, pt b5), (7, pt b7), (10, pt b29), (11, nt (k : Int)), (13, pt b132), (14, nt (decE ts x (tallyT ((svcK ts (tot xs) now r1 ⟨s, r1, []⟩ k).s) (k : Int)) (tot xs) now))] rfl ⟨b132, hb132_154, by omega, hk50, rfl⟩
  ·
   rintro w157 _ ⟨b13, hb13, hb13g, hk158, rfl⟩
   have hsz159 := Keep.size hk158
   replace jr := jr.k0 hk158
   replace jb1 := jb1.k0 hk158
   replace jb3 := jb3.k0 hk158
   replace jb5 := jb5.k0 hk158
   replace jb7 := jb7.k0 hk158
   replace jb29 := jb29.k0 hk158
   replace jbs36 := jbs36.k0 hk158
   replace jbn37 := jbn37.k0 hk158
   replace hb41_46 := hb41_46.k0 hk158
   replace jA := jA.keep0 hk158
   replace jA2 := jA2.keep0 hk158
   replace jAk := jAk.keep0 hk158
   replace jhl := jhl.keep hk158 nk
   replace jhK0 := jhK0.tn hk158
   replace jR := jR.keep hk158 nk
   replace jV := jV.keep hk158 nk
   replace hfenb := hfenb.tn hk158
   have hb13lt := hb13.lt
   refine V_seq ?_
   refine V_draws (acts [6]) none_ [[0, 1, 2, 3, 4, 5, 6]] (by kernel_rfl) (by repeat first | exact (by first | exact sure_postM | exact sure_rQ2 | exact sure_no) | refine sure_then ?_ | refine sure_block ?_ | refine sure_join ?_) (by kernel_rfl) ?_
   intro w161 hk160 he162 L hL163
   have hsz164 := Keep.size hk160
   replace jr := jr.k0 hk160
   replace jb1 := jb1.k0 hk160
   replace jb3 := jb3.k0 hk160
   replace jb5 := jb5.k0 hk160
   replace jb7 := jb7.k0 hk160
   replace jb29 := jb29.k0 hk160
   replace jbs36 := jbs36.k0 hk160
   replace jbn37 := jbn37.k0 hk160
   replace hb41_46 := hb41_46.k0 hk160
   replace hb13 := hb13.k0 hk160
   replace jA := jA.keep0 hk160
   replace jA2 := jA2.keep0 hk160
   replace jAk := jAk.keep0 hk160
   replace jhl := jhl.keep hk160 nk
   replace jhK0 := jhK0.tn hk160
   replace jR := jR.keep hk160 nk
   replace jV := jV.keep hk160 nk
   replace hfenb := hfenb.tn hk160
   have qjr := jr
   have qjb1 := jb1
   have qjb3 := jb3
   have qjb5 := jb5
   have qjb7 := jb7
   have qjb29 := jb29
   have qjbs36 := jbs36
   have qjbn37 := jbn37
   have qhb41_46 := hb41_46
   have qhb13 := hb13
   have K165 : Keep none_ w161 w161 := Keep.refl _ _
   obtain rfl := List.mem_singleton.1 hL163
   refine Gc0 34 (.tmp 4) 0 (pt r) (some 58) qjb1 rfl ?_
   refine Gn [3, 4, 5, 6] [4, 6, 7, 10, 11, 13, 14, 60] ?_
   refine Gc0 95 (.tmp 60) 1 (pt g) (some 61) qjr rfl ?_
   refine Gn [5, 6] [4, 6, 7, 10, 11, 13, 14, 61, 62] ?_
   refine Ga 57 (.tmp 13) 0 (Rfm.cells (decY ts x (tallyT ((svcK ts (tot xs) now r1 ⟨s, r1, []⟩ k).s) (k : Int)) (tot xs) now)) (some 63) 45 qhb13 id (take_all (Rfm.len _)) (Rfm.len _) ?_
   refine GI_final 6 (by kernel_rfl) (by kernel_rfl) ?_
   refine Ok (kl 45 #[(.tmp 61), (.const (nt 0)), (.tmp 62), (.tmp 63)] #[95, 3, 3, 57]) 45 #[pt g, nt 0, nt (k : Int), .agg (Rfm.cells (decY ts x (tallyT ((svcK ts (tot xs) now r1 ⟨s, r1, []⟩ k).s) (k : Int)) (tot xs) now)).toArray] (some 64) (rset_spec Hk r g ts (svcK ts (tot xs) now r1 ⟨s, r1, []⟩ k).rs (k : Int) (decY ts x (tallyT ((svcK ts (tot xs) now r1 ⟨s, r1, []⟩ k).s) (k : Int)) (tot xs) now) _ jR (by omega) (by rw [decY_trk]; exact hxt)) ?_
   rintro _ w170 ⟨rfl, ⟨H172, hR173, hfr174⟩, hk171⟩
   refine ⟨_, rfl, ?_⟩
   have hsz175 := Keep.size hk171
   replace jr := jr.keep hk171 (fun hs => by have h1 := hgo _ hs; have h2 := hgl _ hs; omega)
   replace jb1 := jb1.keep hk171 (fun hs => by have h1 := hgo _ hs; have h2 := hgl _ hs; omega)
   replace jb3 := jb3.keep hk171 (fun hs => by have h1 := hgo _ hs; have h2 := hgl _ hs; omega)
   replace jb5 := jb5.keep hk171 (fun hs => by have h1 := hgo _ hs; have h2 := hgl _ hs; omega)
   replace jb7 := jb7.keep hk171 (fun hs => by have h1 := hgo _ hs; have h2 := hgl _ hs; omega)
   replace jb29 := jb29.keep hk171 (fun hs => by have h1 := hgo _ hs; have h2 := hgl _ hs; omega)
   replace jbs36 := jbs36.keep hk171 (fun hs => by have h1 := hgo _ hs; have h2 := hgl _ hs; omega)
   replace jbn37 := jbn37.keep hk171 (fun hs => by have h1 := hgo _ hs; have h2 := hgl _ hs; omega)
   replace hb41_46 := hb41_46.keep hk171 (fun hs => by have h1 := hgo _ hs; have h2 := hgl _ hs; omega)
   replace hb13 := hb13.keep hk171 (fun hs => by have h1 := hgo _ hs; have h2 := hgl _ hs; omega)
   replace jA := jA.keep hk171 (fun q hq hs => (fun q h1 h2 => (hAo q h2).2.2 h1) q hs hq)
   replace jA2 := jA2.keep hk171 (fun q hq hs => by have g0 := owA2 q hq; have g1 := ltjA2 q hq; have h1 := hgo q hs; have h2 := hgl q hs; omega)
   replace jAk := jAk.keep hk171 (fun q hq hs => (fun q h1 h2 => (fun q h1 h2 => dAkH q h2 h1) q (by rw [show q = g from h1]; exact (Rfr.atg jR)) h2) q hs hq)
   replace jhl := jhl.keep hk171 (fun q hq hs => (fun q h1 h2 => dHG q (by rw [show q = g from h1]; exact (Rfr.atg jR)) h2) q hs hq)
   replace jhK0 := Keep.fresh jhK0 hk171 (by intro i hi hs; first | exact hs | (exfalso; have h1 := hgo i hs; have h2 := hgl i hs; omega) | (have h1 := hgo i hs; have h2 := hgl i hs; show _ ∨ _; omega))
   replace jV := jV.keep hk171 (fun q hq hs => (fun q h1 h2 => dHF q (by rw [show q = g from h1]; exact (Rfr.atg jR)) h2) q hs hq)
   replace hfenb := Keep.fresh hfenb hk171 (by intro i hi hs; have h1 := hgo i hs; have h2 := hgl i hs; show _ ∨ _; omega)
   have own177 : ∀ q, H172 q → (q < w33.heap.size ∨ M1 ≤ q) ∧ q ≠ b1 ∧ q ≠ b3 ∧ q ≠ b5 ∧ q ≠ b7 ∧ q ≠ b29 ∧ q ≠ bs36 ∧ q ≠ bn37 ∧ q ≠ b41 ∧ q ≠ b13 := fun q hq => by rcases hfr174 q hq with h | h; (have h1 := hHko q h; have h2 := lt39 q h; omega); omega
   have lt176 := Rfr.lt hR173
   have rel178 : ∀ q, H172 q → H q ∨ w.heap.size ≤ q := fun q hq => by rcases hfr174 q hq with h | h; exact hHkr q h; exact .inr (by omega)
   have dis179 : ∀ q, H172 q → ¬ inA Ak q := fun q h1 h2 => by rcases hfr174 q h1 with h | h; exact (fun q h1 h2 => dAkH q h2 h1) q h h2; (have h4 := ltjAk q h2; omega)
   have dis180 : ∀ q, H172 q → ¬ G q := fun q h1 h2 => by rcases hfr174 q h1 with h | h; exact dHG q h h2; (have h4 := hGlt q h2; omega)
   have dis181 : ∀ q, H172 q → ¬ Fk q := fun q h1 h2 => by rcases hfr174 q h1 with h | h; exact dHF q h h2; (have h4 := lt40 q h2; omega)
   refine Oer ?_
   refine Ose [(4, pt b1), (6, pt b5), (7, pt b7), (10, pt b29), (11, nt (k : Int)), (14, nt (decE ts x (tallyT ((svcK ts (tot xs) now r1 ⟨s, r1, []⟩ k).s) (k : Int)) (tot xs) now)), (66, .bool (!(decide (decE ts x (tallyT ((svcK ts (tot xs) now r1 ⟨s, r1, []⟩ k).s) (k : Int)) (tot xs) now = 0))))] ?_
   refine V_not (decE ts x (tallyT ((svcK ts (tot xs) now r1 ⟨s, r1, []⟩ k).s) (k : Int)) (tot xs) now = 0) (by kernel_rfl) (fun hc182 => ?_) (fun hc182 => ?_)
   ·
    refine V_draws (acts [0, 6, 7, 8, 9]) (fun q => q = g ∨ Fk q) [[0, 1, 2, 3, 4, 5, 6, 7, 8, 9], [1, 2, 3, 4, 5, 6, 0, 7, 8, 9], [1, 2, 3, 4, 5, 6, 7, 0, 8, 9]] (by kernel_rfl) (by repeat first | exact (by first | exact sure_postM | exact sure_rQ2 | exact sure_no) | refine sure_then ?_ | refine sure_block ?_ | refine sure_join ?_) (by kernel_rfl) ?_
    intro w184 hk183 he185 L hL186
    have hsz187 := Keep.size hk183
    replace jr := jr.k0 hk183
    replace jb1 := jb1.k0 hk183
    replace jb3 := jb3.k0 hk183
    replace jb5 := jb5.k0 hk183
    replace jb7 := jb7.k0 hk183
    replace jb29 := jb29.k0 hk183
    replace jbs36 := jbs36.k0 hk183
    replace jbn37 := jbn37.k0 hk183
    replace hb41_46 := hb41_46.k0 hk183
    replace hb13 := hb13.k0 hk183
    replace jA := jA.keep0 hk183
    replace jA2 := jA2.keep0 hk183
    replace jAk := jAk.keep0 hk183
    replace jhl := jhl.keep hk183 nk
    replace jhK0 := jhK0.tn hk183
    replace jV := jV.keep hk183 nk
    replace hfenb := hfenb.tn hk183
    replace hR173 := hR173.keep hk183 nk
    have qjr := jr
    have qjb1 := jb1
    have qjb3 := jb3
    have qjb5 := jb5
    have qjb7 := jb7
    have qjb29 := jb29
    have qjbs36 := jbs36
    have qjbn37 := jbn37
    have qhb41_46 := hb41_46
    have qhb13 := hb13
    have K188 : Keep (fun q => q = g ∨ Fk q) w184 w184 := Keep.refl _ _
    simp only [List.mem_cons, List.not_mem_nil, or_false] at hL186
    rcases hL186 with rfl | rfl | rfl
    ·
     refine GI_cellA 50 (.tmp 10) 0 (.slice Ak ((svcK ts (tot xs) now r1 ⟨s, r1, []⟩ k).out.length) capk) (some 67) (by kernel_rfl) (by kernel_rfl) K188 (by kernel_rfl) jb29 (m := 1) (by kernel_rfl) rfl ?_
     refine Gc 34 (.tmp 4) 0 (pt r) (some 68) qjb1 (fun hs => by rcases hs with hs | hs; omega; (have h1 := hFko _ hs; omega)) rfl ?_
     refine Gc 33 (.tmp 6) 0 (pt v) (some 69) qjb5 (fun hs => by rcases hs with hs | hs; omega; (have h1 := hFko _ hs; omega)) rfl ?_
     refine Gs [5, 6, 7, 8, 9] [(7, pt b7), (10, pt b29), (67, .slice Ak ((svcK ts (tot xs) now r1 ⟨s, r1, []⟩ k).out.length) capk), (68, pt r), (69, pt v), (70, nt (k : Int)), (71, nt (decE ts x (tallyT ((svcK ts (tot xs) now r1 ⟨s, r1, []⟩ k).s) (k : Int)) (tot xs) now))] ?_
     refine Gc 3 (.tmp 7) 0 (nt now) (some 72) qjb7 (fun hs => by rcases hs with hs | hs; omega; (have h1 := hFko _ hs; omega)) rfl ?_
     refine GI_final 6 (by kernel_rfl) (by kernel_rfl) ?_
     refine Ok (kl 52 #[(.tmp 68), (.tmp 69), (.tmp 70), (.tmp 71), (.tmp 72)] #[34, 33, 3, 3, 3]) 52 #[pt r, pt v, nt (k : Int), nt (decE ts x (tallyT ((svcK ts (tot xs) now r1 ⟨s, r1, []⟩ k).s) (k : Int)) (tot xs) now), nt now] (some 73) (ends_spec H172 r g ts ((svcK ts (tot xs) now r1 ⟨s, r1, []⟩ k).rs.set (k : Int).toNat (decY ts x (tallyT ((svcK ts (tot xs) now r1 ⟨s, r1, []⟩ k).s) (k : Int)) (tot xs) now)) Fk v ((svcK ts (tot xs) now r1 ⟨s, r1, []⟩ k).s) (k : Int) (decE ts x (tallyT ((svcK ts (tot xs) now r1 ⟨s, r1, []⟩ k).s) (k : Int)) (tot xs) now) now _ hR173 jV dis181 (getA_len (by rw [List.length_set]; omega))) ?_
     rintro _ w191 ⟨rfl, ⟨F193, F196, ho194, ho197, hfr195, hfr198, hdis199⟩, hk192⟩
     refine ⟨_, rfl, ?_⟩
     have hsz200 := Keep.size hk192
     replace jr := jr.keep hk192 (fun hs => by rcases hs with hs | hs; (have u0 := hgo _ hs; have u1 := hgl _ hs; omega); (have u0 := hFko _ hs; have u1 := lt40 _ hs; omega))
     replace jb1 := jb1.keep hk192 (fun hs => by rcases hs with hs | hs; (have u0 := hgo _ hs; have u1 := hgl _ hs; omega); (have u0 := hFko _ hs; have u1 := lt40 _ hs; omega))
     replace jb3 := jb3.keep hk192 (fun hs => by rcases hs with hs | hs; (have u0 := hgo _ hs; have u1 := hgl _ hs; omega); (have u0 := hFko _ hs; have u1 := lt40 _ hs; omega))
     replace jb5 := jb5.keep hk192 (fun hs => by rcases hs with hs | hs; (have u0 := hgo _ hs; have u1 := hgl _ hs; omega); (have u0 := hFko _ hs; have u1 := lt40 _ hs; omega))
     replace jb7 := jb7.keep hk192 (fun hs => by rcases hs with hs | hs; (have u0 := hgo _ hs; have u1 := hgl _ hs; omega); (have u0 := hFko _ hs; have u1 := lt40 _ hs; omega))
     replace jb29 := jb29.keep hk192 (fun hs => by rcases hs with hs | hs; (have u0 := hgo _ hs; have u1 := hgl _ hs; omega); (have u0 := hFko _ hs; have u1 := lt40 _ hs; omega))
     replace jbs36 := jbs36.keep hk192 (fun hs => by rcases hs with hs | hs; (have u0 := hgo _ hs; have u1 := hgl _ hs; omega); (have u0 := hFko _ hs; have u1 := lt40 _ hs; omega))
     replace jbn37 := jbn37.keep hk192 (fun hs => by rcases hs with hs | hs; (have u0 := hgo _ hs; have u1 := hgl _ hs; omega); (have u0 := hFko _ hs; have u1 := lt40 _ hs; omega))
     replace hb41_46 := hb41_46.keep hk192 (fun hs => by rcases hs with hs | hs; (have u0 := hgo _ hs; have u1 := hgl _ hs; omega); (have u0 := hFko _ hs; have u1 := lt40 _ hs; omega))
     replace hb13 := hb13.keep hk192 (fun hs => by rcases hs with hs | hs; (have u0 := hgo _ hs; have u1 := hgl _ hs; omega); (have u0 := hFko _ hs; have u1 := lt40 _ hs; omega))
     replace jA := jA.keep hk192 (fun q hq hs => by rcases hs with hs | hs; exact (hAo q hq).2.2 hs; exact (fun q h1 h2 => dFA q h2 h1) q hq hs)
     replace jA2 := jA2.keep hk192 (fun q hq hs => by rcases hs with hs | hs; (have g0 := owA2 q hq; have g1 := ltjA2 q hq; have u9 : q = g := hs; omega); exact (fun q h1 h2 => dFA2 q h2 h1) q hq hs)
     replace jAk := jAk.keep hk192 (fun q hq hs => by rcases hs with hs | hs; exact (fun q h1 h2 => dis179 q h2 h1) q hq (by rw [show q = g from hs]; exact (Rfr.atg hR173)); exact dAkF q hq hs)
     replace jhl := jhl.keep hk192 (fun q hq hs => by rcases hs with hs | hs; exact (fun q h1 h2 => dis180 q h2 h1) q hq (by rw [show q = g from hs]; exact (Rfr.atg hR173)); exact (fun q h1 h2 => dFG q h2 h1) q hq hs)
     replace jhK0 := Keep.fresh jhK0 hk192 (fun i hi hs => by rcases hs with hs | hs; (exact .inl hs); (rcases hFkr i hs with h | h; exact .inr <| h; (exfalso; omega)))
     replace hfenb := Keep.fresh hfenb hk192 (by intro i hi hs; rcases hs with hs | hs; (have u0 := hgo i hs; have u1 := hgl i hs; show _ ∨ _; omega); (have u0 := hFko i hs; have u1 := lt40 i hs; show _ ∨ _; omega))
     have own202 : ∀ q, F193 q → (q < w33.heap.size ∨ M1 ≤ q) ∧ q ≠ b1 ∧ q ≠ b3 ∧ q ≠ b5 ∧ q ≠ b7 ∧ q ≠ b29 ∧ q ≠ bs36 ∧ q ≠ bn37 ∧ q ≠ b41 ∧ q ≠ b13 := fun q hq => by rcases hfr195 q hq with h | h; (have h1 := own177 q h; have h2 := lt176 q h; omega); omega
     have lt201 := Rfr.lt ho194
     have rel203 : ∀ q, F193 q → H q ∨ w.heap.size ≤ q := fun q hq => by rcases hfr195 q hq with h | h; exact rel178 q h; exact .inr (by omega)
     have dis204 : ∀ q, F193 q → ¬ inA Ak q := fun q h1 h2 => by rcases hfr195 q h1 with h | h; exact dis179 q h h2; (have h4 := ltjAk q h2; omega)
     have dis205 : ∀ q, F193 q → ¬ G q := fun q h1 h2 => by rcases hfr195 q h1 with h | h; exact dis180 q h h2; (have h4 := hGlt q h2; omega)
     have own207 : ∀ q, F196 q → (q < w33.heap.size ∨ M1 ≤ q) ∧ q ≠ r ∧ q ≠ b1 ∧ q ≠ b3 ∧ q ≠ b5 ∧ q ≠ b7 ∧ q ≠ b29 ∧ q ≠ bs36 ∧ q ≠ bn37 ∧ q ≠ b41 ∧ q ≠ b13 := fun q hq => by rcases hfr198 q hq with h | h; (have h1 := hFko q h; have h2 := lt40 q h; omega); omega
     have lt206 := VotT.lt ho197
     have rel208 : ∀ q, F196 q → F q ∨ w.heap.size ≤ q := fun q hq => by rcases hfr198 q hq with h | h; exact hFkr q h; exact .inr (by omega)
     have dis209 : ∀ q, F196 q → ¬ inA A q := fun q h1 h2 => by rcases hfr198 q h1 with h | h; exact dFA q h h2; (have h4 := ltjA q h2; omega)
     have dis210 : ∀ q, F196 q → ¬ inA A2 q := fun q h1 h2 => by rcases hfr198 q h1 with h | h; exact dFA2 q h h2; (have h4 := ltjA2 q h2; omega)
     have dis211 : ∀ q, F196 q → ¬ inA Ak q := fun q h1 h2 => by rcases hfr198 q h1 with h | h; exact (fun q h1 h2 => dAkF q h2 h1) q h h2; (have h4 := ltjAk q h2; omega)
     have dis212 : ∀ q, F196 q → ¬ G q := fun q h1 h2 => by rcases hfr198 q h1 with h | h; exact dFG q h h2; (have h4 := hGlt q h2; omega)
     refine OI_slit (E := 53) (zv := .agg #[nt 0, nt 0, nt 0]) (sz := 3) (by_ := 24) 50 1 #[(0, (Operand.tmp 73))] [.agg (Evt.cells (Evt.mk 1 (k : Int) (decE ts x (tallyT ((svcK ts (tot xs) now r1 ⟨s, r1, []⟩ k).s) (k : Int)) (tot xs) now))).toArray] (Evt.cells (Evt.mk 1 (k : Int) (decE ts x (tallyT ((svcK ts (tot xs) now r1 ⟨s, r1, []⟩ k).s) (k : Int)) (tot xs) now))) (some 74) (by kernel_rfl) (by kernel_rfl) (by kernel_rfl) (by omega) rfl (by omega) (by intro v hv; obtain rfl := List.mem_singleton.1 hv; show (Evt.cells (Evt.mk 1 (k : Int) (decE ts x (tallyT ((svcK ts (tot xs) now r1 ⟨s, r1, []⟩ k).s) (k : Int)) (tot xs) now))).toArray.size = 3; simp [Evt.len]) (by kernel_rfl) (by show (Evt.cells (Evt.mk 1 (k : Int) (decE ts x (tallyT ((svcK ts (tot xs) now r1 ⟨s, r1, []⟩ k).s) (k : Int)) (tot xs) now))).toArray.toList ++ [] = _; simp) ?_
     intro b213 w213 e213 hb213 k213 z213
     have hsz214 := Keep.size k213
     replace jr := jr.k0 k213
     replace jb1 := jb1.k0 k213
     replace jb3 := jb3.k0 k213
     replace jb5 := jb5.k0 k213
     replace jb7 := jb7.k0 k213
     replace jb29 := jb29.k0 k213
     replace jbs36 := jbs36.k0 k213
     replace jbn37 := jbn37.k0 k213
     replace hb41_46 := hb41_46.k0 k213
     replace hb13 := hb13.k0 k213
     replace jA := jA.keep0 k213
     replace jA2 := jA2.keep0 k213
     replace jAk := jAk.keep0 k213
     replace jhl := jhl.keep k213 nk
     replace jhK0 := jhK0.tn k213
     replace hfenb := hfenb.tn k213
     replace ho194 := ho194.keep k213 nk
     replace ho197 := ho197.keep k213 nk
     have hb213lt := hb213.lt
     refine OI_append (t := 50) (at2 := 50) (E := 53) (E2 := 53) (sz := 3) (by_ := 24) (zv := .agg #[nt 0, nt 0, nt 0]) (m := ((svcK ts (tot xs) now r1 ⟨s, r1, []⟩ k).out).length) (k := 1) (.tmp 67) (.tmp 74) (.slice Ak ((svcK ts (tot xs) now r1 ⟨s, r1, []⟩ k).out.length) capk) (sl_ b213 0 1 1) (some 75) (by kernel_rfl) (by kernel_rfl) (by kernel_rfl) (by kernel_rfl) (by kernel_rfl) (by kernel_rfl) (by kernel_rfl) (SlT.slr jAk) (slr_one hb213 (Evt.len ((Evt.mk 1 (k : Int) (decE ts x (tallyT ((svcK ts (tot xs) now r1 ⟨s, r1, []⟩ k).s) (k : Int)) (tot xs) now))))) (Evt.one ((Evt.mk 1 (k : Int) (decE ts x (tallyT ((svcK ts (tot xs) now r1 ⟨s, r1, []⟩ k).s) (k : Int)) (tot xs) now)))) (by first | omega | (simp only [List.length_nil]; omega)) (by omega) (by first | omega | (simp only [List.length_nil]; omega)) (by omega) ?_
     intro vv9 w215 hap
     obtain ⟨A215, cap215, rfl, hA215, hk215, own215x⟩ := app_one (f := Evt.cells) (xs := ((svcK ts (tot xs) now r1 ⟨s, r1, []⟩ k).out)) (x := ((Evt.mk 1 (k : Int) (decE ts x (tallyT ((svcK ts (tot xs) now r1 ⟨s, r1, []⟩ k).s) (k : Int)) (tot xs) now)))) (A := Ak) (cap := capk) hap (fun x _ => Evt.len x) (Evt.len _)
     have own215 : ∀ q, inA A215 q → M1 ≤ q := fun q hq => by rcases own215x q hq with h | h; exact ownk q h; (show M1 ≤ q; omega)
     have hsz216 := Keep.size hk215
     replace jr := jr.keep hk215 (fun hs => by have h1 := ownk _ hs; have h2 := ltjAk _ hs; omega)
     replace jb1 := jb1.keep hk215 (fun hs => by have h1 := ownk _ hs; have h2 := ltjAk _ hs; omega)
     replace jb3 := jb3.keep hk215 (fun hs => by have h1 := ownk _ hs; have h2 := ltjAk _ hs; omega)
     replace jb5 := jb5.keep hk215 (fun hs => by have h1 := ownk _ hs; have h2 := ltjAk _ hs; omega)
     replace jb7 := jb7.keep hk215 (fun hs => by have h1 := ownk _ hs; have h2 := ltjAk _ hs; omega)
     replace jb29 := jb29.keep hk215 (fun hs => by have h1 := ownk _ hs; have h2 := ltjAk _ hs; omega)
     replace jbs36 := jbs36.keep hk215 (fun hs => by have h1 := ownk _ hs; have h2 := ltjAk _ hs; omega)
     replace jbn37 := jbn37.keep hk215 (fun hs => by have h1 := ownk _ hs; have h2 := ltjAk _ hs; omega)
     replace hb41_46 := hb41_46.keep hk215 (fun hs => by have h1 := ownk _ hs; have h2 := ltjAk _ hs; omega)
     replace hb13 := hb13.keep hk215 (fun hs => by have h1 := ownk _ hs; have h2 := ltjAk _ hs; omega)
     replace jA := jA.keep hk215 (fun q hq hs => by have g0 := hAr q hq; have g1 := ltjA q hq; have h1 := ownk q hs; have h2 := ltjAk q hs; omega)
     replace jA2 := jA2.keep hk215 (fun q hq hs => by have g0 := owA2 q hq; have g1 := ltjA2 q hq; have h1 := ownk q hs; have h2 := ltjAk q hs; omega)
     replace jhl := jhl.keep hk215 (fun q hq hs => (fun (q : Nat) (h1 : inA Ak q) (h2 : G q) => by have h3 := ownk q h1; have h4 := hGlt q h2; omega) q hs hq)
     replace jhK0 := Keep.fresh jhK0 hk215 (by intro i hi hs; first | exact hs | (exfalso; have h1 := ownk i hs; have h2 := ltjAk i hs; omega) | (have h1 := ownk i hs; have h2 := ltjAk i hs; show _ ∨ _; omega))
     replace hfenb := Keep.fresh hfenb hk215 (by intro i hi hs; have h1 := ownk i hs; have h2 := ltjAk i hs; show _ ∨ _; omega)
     replace ho194 := ho194.keep hk215 (fun q hq hs => (fun q h1 h2 => dis204 q h2 h1) q hs hq)
     replace ho197 := ho197.keep hk215 (fun q hq hs => (fun q h1 h2 => dis211 q h2 h1) q hs hq)
     have lt215 := SlT.lt hA215
     have dis217 : ∀ q, inA A215 q → ¬ G q := fun q h1 h2 => by rcases own215x q h1 with h | h; exact (fun (q : Nat) (h1 : G q) (h2 : inA Ak q) => by have h3 := ownk q h2; have h4 := hGlt q h1; omega) q h2 h; (have h4 := hGlt q h2; omega)
     have dis218 : ∀ q, inA A215 q → ¬ F193 q := fun q h1 h2 => by rcases own215x q h1 with h | h; exact dis204 q h2 h; (have h4 := lt201 q h2; omega)
     have dis219 : ∀ q, inA A215 q → ¬ F196 q := fun q h1 h2 => by rcases own215x q h1 with h | h; exact dis211 q h2 h; (have h4 := lt206 q h2; omega)
     refine Ot 50 (.tmp 10) (.tmp 75) 0 (.slice A215 (((svcK ts (tot xs) now r1 ⟨s, r1, []⟩ k).out ++ [((Evt.mk 1 (k : Int) (decE ts x (tallyT ((svcK ts (tot xs) now r1 ⟨s, r1, []⟩ k).s) (k : Int)) (tot xs) now)))]).length) cap215) jb29 ?_
     intro w220 hb29_223 hk221 hz222
     replace hb29_223 : Blk w220 b29 [.slice A215 (((svcK ts (tot xs) now r1 ⟨s, r1, []⟩ k).out ++ [((Evt.mk 1 (k : Int) (decE ts x (tallyT ((svcK ts (tot xs) now r1 ⟨s, r1, []⟩ k).s) (k : Int)) (tot xs) now)))]).length) cap215] 50 := hb29_223
     have hsz224 := Keep.size hk221
     replace jr := jr.k1 hk221
     replace jb1 := jb1.k1 hk221
     replace jb3 := jb3.k1 hk221
     replace jb5 := jb5.k1 hk221
     replace jb7 := jb7.k1 hk221
     replace jbs36 := jbs36.k1 hk221
     replace jbn37 := jbn37.k1 hk221
     replace hb41_46 := hb41_46.k1 hk221
     replace hb13 := hb13.k1 hk221
     replace jA := jA.keep hk221 (fun q hq hs => by have hs : q = b29 := hs; have g0 := hAr q hq; have g1 := ltjA q hq; omega)
     replace jA2 := jA2.keep hk221 (fun q hq hs => by have hs : q = b29 := hs; have g0 := owA2 q hq; have g1 := ltjA2 q hq; omega)
     replace hA215 := hA215.keep hk221 (fun q hq hs => by have hs : q = b29 := hs; have g0 := own215 q hq; have g1 := lt215 q hq; omega)
     replace jhl := jhl.keep hk221 (fun q hq hs => by have hs : q = b29 := hs; have g0 := hlr q hq; have g1 := hGlt q hq; omega)
     replace jhK0 := Keep.fr jhK0 hk221
     replace hfenb := Keep.fresh hfenb hk221 (by intro i hi hs; have hs2 : i = b29 := hs; show _ ∨ _; omega)
     replace ho194 := ho194.keep hk221 (fun q hq hs => by have hs : q = b29 := hs; have g0 := own202 q hq; have g1 := lt201 q hq; omega)
     replace ho197 := ho197.keep hk221 (fun q hq hs => by have hs : q = b29 := hs; have g0 := own207 q hq; have g1 := lt206 q hq; omega)
     refine OI_end rfl ?_
     refine X_block ?_
     have hq9 := hstp.trans (step_end hc49 hc182)
     rw [endR_set (by omega)] at ho194
     exact fun a _ => ⟨hfenb, A215, cap215, F193, F196, jr, jb1, jb3, jb5, jb7, jbs36, jbn37, jA, jA2, jhl, jhK0, by rw [hq9]; exact hb29_223, by rw [hq9]; exact hA215, by rw [hq9]; exact ho194, by rw [hq9]; exact ho197, own215, (fun q hq => by have h1 := own202 q hq; have h2 := lt201 q hq; omega), rel203, (fun q hq => by have h1 := own207 q hq; have h2 := lt206 q hq; omega), rel208, hdis199, dis205, dis212, dis210, dis209, dis218, dis219⟩
    ·
     refine Gc 34 (.tmp 4) 0 (pt r) (some 68) qjb1 (fun hs => by rcases hs with hs | hs; omega; (have h1 := hFko _ hs; omega)) rfl ?_
     refine Gc 33 (.tmp 6) 0 (pt v) (some 69) qjb5 (fun hs => by rcases hs with hs | hs; omega; (have h1 := hFko _ hs; omega)) rfl ?_
     refine Gs [5, 6, 0, 7, 8, 9] [(7, pt b7), (10, pt b29), (68, pt r), (69, pt v), (70, nt (k : Int)), (71, nt (decE ts x (tallyT ((svcK ts (tot xs) now r1 ⟨s, r1, []⟩ k).s) (k : Int)) (tot xs) now))] ?_
     refine Gc 3 (.tmp 7) 0 (nt now) (some 72) qjb7 (fun hs => by rcases hs with hs | hs; omega; (have h1 := hFko _ hs; omega)) rfl ?_
     refine Gk (kl 52 #[(.tmp 68), (.tmp 69), (.tmp 70), (.tmp 71), (.tmp 72)] #[34, 33, 3, 3, 3]) 52 #[pt r, pt v, nt (k : Int), nt (decE ts x (tallyT ((svcK ts (tot xs) now r1 ⟨s, r1, []⟩ k).s) (k : Int)) (tot xs) now), nt now] (some 73) (ends_spec H172 r g ts ((svcK ts (tot xs) now r1 ⟨s, r1, []⟩ k).rs.set (k : Int).toNat (decY ts x (tallyT ((svcK ts (tot xs) now r1 ⟨s, r1, []⟩ k).s) (k : Int)) (tot xs) now)) Fk v ((svcK ts (tot xs) now r1 ⟨s, r1, []⟩ k).s) (k : Int) (decE ts x (tallyT ((svcK ts (tot xs) now r1 ⟨s, r1, []⟩ k).s) (k : Int)) (tot xs) now) now _ hR173 jV dis181 (getA_len (by rw [List.length_set]; omega))) ?_
     rintro _ w227 ⟨rfl, ⟨F229, F232, ho230, ho233, hfr231, hfr234, hdis235⟩, hk228⟩
     have K236 := Keep.fresh K188 hk228 (by intro i hi hs; first | exact hs | (rcases hs with hs | hs; (have u0 := hgo i hs; have u1 := hgl i hs; omega); (have u0 := hFko i hs; have u1 := lt40 i hs; omega)))
     refine ⟨_, rfl, K236, ?_⟩
     have hzK236 := Keep.size K236
     have hsz237 := Keep.size hk228
     replace jr := jr.keep hk228 (fun hs => by rcases hs with hs | hs; (have u0 := hgo _ hs; have u1 := hgl _ hs; omega); (have u0 := hFko _ hs; have u1 := lt40 _ hs; omega))
     replace jb1 := jb1.keep hk228 (fun hs => by rcases hs with hs | hs; (have u0 := hgo _ hs; have u1 := hgl _ hs; omega); (have u0 := hFko _ hs; have u1 := lt40 _ hs; omega))
     replace jb3 := jb3.keep hk228 (fun hs => by rcases hs with hs | hs; (have u0 := hgo _ hs; have u1 := hgl _ hs; omega); (have u0 := hFko _ hs; have u1 := lt40 _ hs; omega))
     replace jb5 := jb5.keep hk228 (fun hs => by rcases hs with hs | hs; (have u0 := hgo _ hs; have u1 := hgl _ hs; omega); (have u0 := hFko _ hs; have u1 := lt40 _ hs; omega))
     replace jb7 := jb7.keep hk228 (fun hs => by rcases hs with hs | hs; (have u0 := hgo _ hs; have u1 := hgl _ hs; omega); (have u0 := hFko _ hs; have u1 := lt40 _ hs; omega))
     replace jb29 := jb29.keep hk228 (fun hs => by rcases hs with hs | hs; (have u0 := hgo _ hs; have u1 := hgl _ hs; omega); (have u0 := hFko _ hs; have u1 := lt40 _ hs; omega))
     replace jbs36 := jbs36.keep hk228 (fun hs => by rcases hs with hs | hs; (have u0 := hgo _ hs; have u1 := hgl _ hs; omega); (have u0 := hFko _ hs; have u1 := lt40 _ hs; omega))
     replace jbn37 := jbn37.keep hk228 (fun hs => by rcases hs with hs | hs; (have u0 := hgo _ hs; have u1 := hgl _ hs; omega); (have u0 := hFko _ hs; have u1 := lt40 _ hs; omega))
     replace hb41_46 := hb41_46.keep hk228 (fun hs => by rcases hs with hs | hs; (have u0 := hgo _ hs; have u1 := hgl _ hs; omega); (have u0 := hFko _ hs; have u1 := lt40 _ hs; omega))
     replace hb13 := hb13.keep hk228 (fun hs => by rcases hs with hs | hs; (have u0 := hgo _ hs; have u1 := hgl _ hs; omega); (have u0 := hFko _ hs; have u1 := lt40 _ hs; omega))
     replace jA := jA.keep hk228 (fun q hq hs => by rcases hs with hs | hs; exact (hAo q hq).2.2 hs; exact (fun q h1 h2 => dFA q h2 h1) q hq hs)
     replace jA2 := jA2.keep hk228 (fun q hq hs => by rcases hs with hs | hs; (have g0 := owA2 q hq; have g1 := ltjA2 q hq; have u9 : q = g := hs; omega); exact (fun q h1 h2 => dFA2 q h2 h1) q hq hs)
     replace jAk := jAk.keep hk228 (fun q hq hs => by rcases hs with hs | hs; exact (fun q h1 h2 => dis179 q h2 h1) q hq (by rw [show q = g from hs]; exact (Rfr.atg hR173)); exact dAkF q hq hs)
     replace jhl := jhl.keep hk228 (fun q hq hs => by rcases hs with hs | hs; exact (fun q h1 h2 => dis180 q h2 h1) q hq (by rw [show q = g from hs]; exact (Rfr.atg hR173)); exact (fun q h1 h2 => dFG q h2 h1) q hq hs)
     replace jhK0 := Keep.fresh jhK0 hk228 (fun i hi hs => by rcases hs with hs | hs; (exact .inl hs); (rcases hFkr i hs with h | h; exact .inr <| h; (exfalso; omega)))
     replace hfenb := Keep.fresh hfenb hk228 (by intro i hi hs; rcases hs with hs | hs; (have u0 := hgo i hs; have u1 := hgl i hs; show _ ∨ _; omega); (have u0 := hFko i hs; have u1 := lt40 i hs; show _ ∨ _; omega))
     have own239 : ∀ q, F229 q → (q < w33.heap.size ∨ M1 ≤ q) ∧ q ≠ b1 ∧ q ≠ b3 ∧ q ≠ b5 ∧ q ≠ b7 ∧ q ≠ b29 ∧ q ≠ bs36 ∧ q ≠ bn37 ∧ q ≠ b41 ∧ q ≠ b13 := fun q hq => by rcases hfr231 q hq with h | h; (have h1 := own177 q h; have h2 := lt176 q h; omega); omega
     have lt238 := Rfr.lt ho230
     have rel240 : ∀ q, F229 q → H q ∨ w.heap.size ≤ q := fun q hq => by rcases hfr231 q hq with h | h; exact rel178 q h; exact .inr (by omega)
     have dis241 : ∀ q, F229 q → ¬ inA Ak q := fun q h1 h2 => by rcases hfr231 q h1 with h | h; exact dis179 q h h2; (have h4 := ltjAk q h2; omega)
     have dis242 : ∀ q, F229 q → ¬ G q := fun q h1 h2 => by rcases hfr231 q h1 with h | h; exact dis180 q h h2; (have h4 := hGlt q h2; omega)
     have own244 : ∀ q, F232 q → (q < w33.heap.size ∨ M1 ≤ q) ∧ q ≠ r ∧ q ≠ b1 ∧ q ≠ b3 ∧ q ≠ b5 ∧ q ≠ b7 ∧ q ≠ b29 ∧ q ≠ bs36 ∧ q ≠ bn37 ∧ q ≠ b41 ∧ q ≠ b13 := fun q hq => by rcases hfr234 q hq with h | h; (have h1 := hFko q h; have h2 := lt40 q h; omega); omega
     have lt243 := VotT.lt ho233
     have rel245 : ∀ q, F232 q → F q ∨ w.heap.size ≤ q := fun q hq => by rcases hfr234 q hq with h | h; exact hFkr q h; exact .inr (by omega)
     have dis246 : ∀ q, F232 q → ¬ inA A q := fun q h1 h2 => by rcases hfr234 q h1 with h | h; exact dFA q h h2; (have h4 := ltjA q h2; omega)
     have dis247 : ∀ q, F232 q → ¬ inA A2 q := fun q h1 h2 => by rcases hfr234 q h1 with h | h; exact dFA2 q h h2; (have h4 := ltjA2 q h2; omega)
     have dis248 : ∀ q, F232 q → ¬ inA Ak q := fun q h1 h2 => by rcases hfr234 q h1 with h | h; exact (fun q h1 h2 => dAkF q h2 h1) q h h2; (have h4 := ltjAk q h2; omega)
     have dis249 : ∀ q, F232 q → ¬ G q := fun q h1 h2 => by rcases hfr234 q h1 with h | h; exact dFG q h h2; (have h4 := hGlt q h2; omega)
     refine GI_cellA 50 (.tmp 10) 0 (.slice Ak ((svcK ts (tot xs) now r1 ⟨s, r1, []⟩ k).out.length) capk) (some 67) (by kernel_rfl) (by kernel_rfl) K236 (by kernel_rfl) jb29 (m := 1) (by kernel_rfl) rfl ?_
     refine GI_final 7 (by kernel_rfl) (by kernel_rfl) ?_
     refine OI_slit (E := 53) (zv := .agg #[nt 0, nt 0, nt 0]) (sz := 3) (by_ := 24) 50 1 #[(0, (Operand.tmp 73))] [.agg (Evt.cells (Evt.mk 1 (k : Int) (decE ts x (tallyT ((svcK ts (tot xs) now r1 ⟨s, r1, []⟩ k).s) (k : Int)) (tot xs) now))).toArray] (Evt.cells (Evt.mk 1 (k : Int) (decE ts x (tallyT ((svcK ts (tot xs) now r1 ⟨s, r1, []⟩ k).s) (k : Int)) (tot xs) now))) (some 74) (by kernel_rfl) (by kernel_rfl) (by kernel_rfl) (by omega) rfl (by omega) (by intro v hv; obtain rfl := List.mem_singleton.1 hv; show (Evt.cells (Evt.mk 1 (k : Int) (decE ts x (tallyT ((svcK ts (tot xs) now r1 ⟨s, r1, []⟩ k).s) (k : Int)) (tot xs) now))).toArray.size = 3; simp [Evt.len]) (by kernel_rfl) (by show (Evt.cells (Evt.mk 1 (k : Int) (decE ts x (tallyT ((svcK ts (tot xs) now r1 ⟨s, r1, []⟩ k).s) (k : Int)) (tot xs) now))).toArray.toList ++ [] = _; simp) ?_
     intro b250 w250 e250 hb250 k250 z250
     have hsz251 := Keep.size k250
     replace jr := jr.k0 k250
     replace jb1 := jb1.k0 k250
     replace jb3 := jb3.k0 k250
     replace jb5 := jb5.k0 k250
     replace jb7 := jb7.k0 k250
     replace jb29 := jb29.k0 k250
     replace jbs36 := jbs36.k0 k250
     replace jbn37 := jbn37.k0 k250
     replace hb41_46 := hb41_46.k0 k250
     replace hb13 := hb13.k0 k250
     replace jA := jA.keep0 k250
     replace jA2 := jA2.keep0 k250
     replace jAk := jAk.keep0 k250
     replace jhl := jhl.keep k250 nk
     replace jhK0 := jhK0.tn k250
     replace hfenb := hfenb.tn k250
     replace ho230 := ho230.keep k250 nk
     replace ho233 := ho233.keep k250 nk
     have hb250lt := hb250.lt
     refine OI_append (t := 50) (at2 := 50) (E := 53) (E2 := 53) (sz := 3) (by_ := 24) (zv := .agg #[nt 0, nt 0, nt 0]) (m := ((svcK ts (tot xs) now r1 ⟨s, r1, []⟩ k).out).length) (k := 1) (.tmp 67) (.tmp 74) (.slice Ak ((svcK ts (tot xs) now r1 ⟨s, r1, []⟩ k).out.length) capk) (sl_ b250 0 1 1) (some 75) (by kernel_rfl) (by kernel_rfl) (by kernel_rfl) (by kernel_rfl) (by kernel_rfl) (by kernel_rfl) (by kernel_rfl) (SlT.slr jAk) (slr_one hb250 (Evt.len ((Evt.mk 1 (k : Int) (decE ts x (tallyT ((svcK ts (tot xs) now r1 ⟨s, r1, []⟩ k).s) (k : Int)) (tot xs) now))))) (Evt.one ((Evt.mk 1 (k : Int) (decE ts x (tallyT ((svcK ts (tot xs) now r1 ⟨s, r1, []⟩ k).s) (k : Int)) (tot xs) now)))) (by first | omega | (simp only [List.length_nil]; omega)) (by omega) (by first | omega | (simp only [List.length_nil]; omega)) (by omega) ?_
     intro vv9 w252 hap
     obtain ⟨A252, cap252, rfl, hA252, hk252, own252x⟩ := app_one (f := Evt.cells) (xs := ((svcK ts (tot xs) now r1 ⟨s, r1, []⟩ k).out)) (x := ((Evt.mk 1 (k : Int) (decE ts x (tallyT ((svcK ts (tot xs) now r1 ⟨s, r1, []⟩ k).s) (k : Int)) (tot xs) now)))) (A := Ak) (cap := capk) hap (fun x _ => Evt.len x) (Evt.len _)
     have own252 : ∀ q, inA A252 q → M1 ≤ q := fun q hq => by rcases own252x q hq with h | h; exact ownk q h; (show M1 ≤ q; omega)
     have hsz253 := Keep.size hk252
     replace jr := jr.keep hk252 (fun hs => by have h1 := ownk _ hs; have h2 := ltjAk _ hs; omega)
     replace jb1 := jb1.keep hk252 (fun hs => by have h1 := ownk _ hs; have h2 := ltjAk _ hs; omega)
     replace jb3 := jb3.keep hk252 (fun hs => by have h1 := ownk _ hs; have h2 := ltjAk _ hs; omega)
     replace jb5 := jb5.keep hk252 (fun hs => by have h1 := ownk _ hs; have h2 := ltjAk _ hs; omega)
     replace jb7 := jb7.keep hk252 (fun hs => by have h1 := ownk _ hs; have h2 := ltjAk _ hs; omega)
     replace jb29 := jb29.keep hk252 (fun hs => by have h1 := ownk _ hs; have h2 := ltjAk _ hs; omega)
     replace jbs36 := jbs36.keep hk252 (fun hs => by have h1 := ownk _ hs; have h2 := ltjAk _ hs; omega)
     replace jbn37 := jbn37.keep hk252 (fun hs => by have h1 := ownk _ hs; have h2 := ltjAk _ hs; omega)
     replace hb41_46 := hb41_46.keep hk252 (fun hs => by have h1 := ownk _ hs; have h2 := ltjAk _ hs; omega)
     replace hb13 := hb13.keep hk252 (fun hs => by have h1 := ownk _ hs; have h2 := ltjAk _ hs; omega)
     replace jA := jA.keep hk252 (fun q hq hs => by have g0 := hAr q hq; have g1 := ltjA q hq; have h1 := ownk q hs; have h2 := ltjAk q hs; omega)
     replace jA2 := jA2.keep hk252 (fun q hq hs => by have g0 := owA2 q hq; have g1 := ltjA2 q hq; have h1 := ownk q hs; have h2 := ltjAk q hs; omega)
     replace jhl := jhl.keep hk252 (fun q hq hs => (fun (q : Nat) (h1 : inA Ak q) (h2 : G q) => by have h3 := ownk q h1; have h4 := hGlt q h2; omega) q hs hq)
     replace jhK0 := Keep.fresh jhK0 hk252 (by intro i hi hs; first | exact hs | (exfalso; have h1 := ownk i hs; have h2 := ltjAk i hs; omega) | (have h1 := ownk i hs; have h2 := ltjAk i hs; show _ ∨ _; omega))
     replace hfenb := Keep.fresh hfenb hk252 (by intro i hi hs; have h1 := ownk i hs; have h2 := ltjAk i hs; show _ ∨ _; omega)
     replace ho230 := ho230.keep hk252 (fun q hq hs => (fun q h1 h2 => dis241 q h2 h1) q hs hq)
     replace ho233 := ho233.keep hk252 (fun q hq hs => (fun q h1 h2 => dis248 q h2 h1) q hs hq)
     have lt252 := SlT.lt hA252
     have dis254 : ∀ q, inA A252 q → ¬ G q := fun q h1 h2 => by rcases own252x q h1 with h | h; exact (fun (q : Nat) (h1 : G q) (h2 : inA Ak q) => by have h3 := ownk q h2; have h4 := hGlt q h1; omega) q h2 h; (have h4 := hGlt q h2; omega)
     have dis255 : ∀ q, inA A252 q → ¬ F229 q := fun q h1 h2 => by rcases own252x q h1 with h | h; exact dis241 q h2 h; (have h4 := lt238 q h2; omega)
     have dis256 : ∀ q, inA A252 q → ¬ F232 q := fun q h1 h2 => by rcases own252x q h1 with h | h; exact dis248 q h2 h; (have h4 := lt243 q h2; omega)
     refine Ot 50 (.tmp 10) (.tmp 75) 0 (.slice A252 (((svcK ts (tot xs) now r1 ⟨s, r1, []⟩ k).out ++ [((Evt.mk 1 (k : Int) (decE ts x (tallyT ((svcK ts (tot xs) now r1 ⟨s, r1, []⟩ k).s) (k : Int)) (tot xs) now)))]).length) cap252) jb29 ?_
     intro w257 hb29_260 hk258 hz259
     replace hb29_260 : Blk w257 b29 [.slice A252 (((svcK ts (tot xs) now r1 ⟨s, r1, []⟩ k).out ++ [((Evt.mk 1 (k : Int) (decE ts x (tallyT ((svcK ts (tot xs) now r1 ⟨s, r1, []⟩ k).s) (k : Int)) (tot xs) now)))]).length) cap252] 50 := hb29_260
     have hsz261 := Keep.size hk258
     replace jr := jr.k1 hk258
     replace jb1 := jb1.k1 hk258
     replace jb3 := jb3.k1 hk258
     replace jb5 := jb5.k1 hk258
     replace jb7 := jb7.k1 hk258
     replace jbs36 := jbs36.k1 hk258
     replace jbn37 := jbn37.k1 hk258
     replace hb41_46 := hb41_46.k1 hk258
     replace hb13 := hb13.k1 hk258
     replace jA := jA.keep hk258 (fun q hq hs => by have hs : q = b29 := hs; have g0 := hAr q hq; have g1 := ltjA q hq; omega)
     replace jA2 := jA2.keep hk258 (fun q hq hs => by have hs : q = b29 := hs; have g0 := owA2 q hq; have g1 := ltjA2 q hq; omega)
     replace hA252 := hA252.keep hk258 (fun q hq hs => by have hs : q = b29 := hs; have g0 := own252 q hq; have g1 := lt252 q hq; omega)
     replace jhl := jhl.keep hk258 (fun q hq hs => by have hs : q = b29 := hs; have g0 := hlr q hq; have g1 := hGlt q hq; omega)
     replace jhK0 := Keep.fr jhK0 hk258
     replace hfenb := Keep.fresh hfenb hk258 (by intro i hi hs; have hs2 : i = b29 := hs; show _ ∨ _; omega)
     replace ho230 := ho230.keep hk258 (fun q hq hs => by have hs : q = b29 := hs; have g0 := own239 q hq; have g1 := lt238 q hq; omega)
     replace ho233 := ho233.keep hk258 (fun q hq hs => by have hs : q = b29 := hs; have g0 := own244 q hq; have g1 := lt243 q hq; omega)
     refine OI_end rfl ?_
     refine X_block ?_
     have hq9 := hstp.trans (step_end hc49 hc182)
     rw [endR_set (by omega)] at ho230
     exact fun a _ => ⟨hfenb, A252, cap252, F229, F232, jr, jb1, jb3, jb5, jb7, jbs36, jbn37, jA, jA2, jhl, jhK0, by rw [hq9]; exact hb29_260, by rw [hq9]; exact hA252, by rw [hq9]; exact ho230, by rw [hq9]; exact ho233, own252, (fun q hq => by have h1 := own239 q hq; have h2 := lt238 q hq; omega), rel240, (fun q hq => by have h1 := own244 q hq; have h2 := lt243 q hq; omega), rel245, hdis235, dis242, dis249, dis247, dis246, dis255, dis256⟩
    ·
     refine Gc 34 (.tmp 4) 0 (pt r) (some 68) qjb1 (fun hs => by rcases hs with hs | hs; omega; (have h1 := hFko _ hs; omega)) rfl ?_
     refine Gc 33 (.tmp 6) 0 (pt v) (some 69) qjb5 (fun hs => by rcases hs with hs | hs; omega; (have h1 := hFko _ hs; omega)) rfl ?_
     refine Gs [5, 6, 7, 0, 8, 9] [(7, pt b7), (10, pt b29), (68, pt r), (69, pt v), (70, nt (k : Int)), (71, nt (decE ts x (tallyT ((svcK ts (tot xs) now r1 ⟨s, r1, []⟩ k).s) (k : Int)) (tot xs) now))] ?_
     refine Gc 3 (.tmp 7) 0 (nt now) (some 72) qjb7 (fun hs => by rcases hs with hs | hs; omega; (have h1 := hFko _ hs; omega)) rfl ?_
     refine Gk (kl 52 #[(.tmp 68), (.tmp 69), (.tmp 70), (.tmp 71), (.tmp 72)] #[34, 33, 3, 3, 3]) 52 #[pt r, pt v, nt (k : Int), nt (decE ts x (tallyT ((svcK ts (tot xs) now r1 ⟨s, r1, []⟩ k).s) (k : Int)) (tot xs) now), nt now] (some 73) (ends_spec H172 r g ts ((svcK ts (tot xs) now r1 ⟨s, r1, []⟩ k).rs.set (k : Int).toNat (decY ts x (tallyT ((svcK ts (tot xs) now r1 ⟨s, r1, []⟩ k).s) (k : Int)) (tot xs) now)) Fk v ((svcK ts (tot xs) now r1 ⟨s, r1, []⟩ k).s) (k : Int) (decE ts x (tallyT ((svcK ts (tot xs) now r1 ⟨s, r1, []⟩ k).s) (k : Int)) (tot xs) now) now _ hR173 jV dis181 (getA_len (by rw [List.length_set]; omega))) ?_
     rintro _ w264 ⟨rfl, ⟨F266, F269, ho267, ho270, hfr268, hfr271, hdis272⟩, hk265⟩
     have K273 := Keep.fresh K188 hk265 (by intro i hi hs; first | exact hs | (rcases hs with hs | hs; (have u0 := hgo i hs; have u1 := hgl i hs; omega); (have u0 := hFko i hs; have u1 := lt40 i hs; omega)))
     refine ⟨_, rfl, K273, ?_⟩
     have hzK273 := Keep.size K273
     have hsz274 := Keep.size hk265
     replace jr := jr.keep hk265 (fun hs => by rcases hs with hs | hs; (have u0 := hgo _ hs; have u1 := hgl _ hs; omega); (have u0 := hFko _ hs; have u1 := lt40 _ hs; omega))
     replace jb1 := jb1.keep hk265 (fun hs => by rcases hs with hs | hs; (have u0 := hgo _ hs; have u1 := hgl _ hs; omega); (have u0 := hFko _ hs; have u1 := lt40 _ hs; omega))
     replace jb3 := jb3.keep hk265 (fun hs => by rcases hs with hs | hs; (have u0 := hgo _ hs; have u1 := hgl _ hs; omega); (have u0 := hFko _ hs; have u1 := lt40 _ hs; omega))
     replace jb5 := jb5.keep hk265 (fun hs => by rcases hs with hs | hs; (have u0 := hgo _ hs; have u1 := hgl _ hs; omega); (have u0 := hFko _ hs; have u1 := lt40 _ hs; omega))
     replace jb7 := jb7.keep hk265 (fun hs => by rcases hs with hs | hs; (have u0 := hgo _ hs; have u1 := hgl _ hs; omega); (have u0 := hFko _ hs; have u1 := lt40 _ hs; omega))
     replace jb29 := jb29.keep hk265 (fun hs => by rcases hs with hs | hs; (have u0 := hgo _ hs; have u1 := hgl _ hs; omega); (have u0 := hFko _ hs; have u1 := lt40 _ hs; omega))
     replace jbs36 := jbs36.keep hk265 (fun hs => by rcases hs with hs | hs; (have u0 := hgo _ hs; have u1 := hgl _ hs; omega); (have u0 := hFko _ hs; have u1 := lt40 _ hs; omega))
     replace jbn37 := jbn37.keep hk265 (fun hs => by rcases hs with hs | hs; (have u0 := hgo _ hs; have u1 := hgl _ hs; omega); (have u0 := hFko _ hs; have u1 := lt40 _ hs; omega))
     replace hb41_46 := hb41_46.keep hk265 (fun hs => by rcases hs with hs | hs; (have u0 := hgo _ hs; have u1 := hgl _ hs; omega); (have u0 := hFko _ hs; have u1 := lt40 _ hs; omega))
     replace hb13 := hb13.keep hk265 (fun hs => by rcases hs with hs | hs; (have u0 := hgo _ hs; have u1 := hgl _ hs; omega); (have u0 := hFko _ hs; have u1 := lt40 _ hs; omega))
     replace jA := jA.keep hk265 (fun q hq hs => by rcases hs with hs | hs; exact (hAo q hq).2.2 hs; exact (fun q h1 h2 => dFA q h2 h1) q hq hs)
     replace jA2 := jA2.keep hk265 (fun q hq hs => by rcases hs with hs | hs; (have g0 := owA2 q hq; have g1 := ltjA2 q hq; have u9 : q = g := hs; omega); exact (fun q h1 h2 => dFA2 q h2 h1) q hq hs)
     replace jAk := jAk.keep hk265 (fun q hq hs => by rcases hs with hs | hs; exact (fun q h1 h2 => dis179 q h2 h1) q hq (by rw [show q = g from hs]; exact (Rfr.atg hR173)); exact dAkF q hq hs)
     replace jhl := jhl.keep hk265 (fun q hq hs => by rcases hs with hs | hs; exact (fun q h1 h2 => dis180 q h2 h1) q hq (by rw [show q = g from hs]; exact (Rfr.atg hR173)); exact (fun q h1 h2 => dFG q h2 h1) q hq hs)
     replace jhK0 := Keep.fresh jhK0 hk265 (fun i hi hs => by rcases hs with hs | hs; (exact .inl hs); (rcases hFkr i hs with h | h; exact .inr <| h; (exfalso; omega)))
     replace hfenb := Keep.fresh hfenb hk265 (by intro i hi hs; rcases hs with hs | hs; (have u0 := hgo i hs; have u1 := hgl i hs; show _ ∨ _; omega); (have u0 := hFko i hs; have u1 := lt40 i hs; show _ ∨ _; omega))
     have own276 : ∀ q, F266 q → (q < w33.heap.size ∨ M1 ≤ q) ∧ q ≠ b1 ∧ q ≠ b3 ∧ q ≠ b5 ∧ q ≠ b7 ∧ q ≠ b29 ∧ q ≠ bs36 ∧ q ≠ bn37 ∧ q ≠ b41 ∧ q ≠ b13 := fun q hq => by rcases hfr268 q hq with h | h; (have h1 := own177 q h; have h2 := lt176 q h; omega); omega
     have lt275 := Rfr.lt ho267
     have rel277 : ∀ q, F266 q → H q ∨ w.heap.size ≤ q := fun q hq => by rcases hfr268 q hq with h | h; exact rel178 q h; exact .inr (by omega)
     have dis278 : ∀ q, F266 q → ¬ inA Ak q := fun q h1 h2 => by rcases hfr268 q h1 with h | h; exact dis179 q h h2; (have h4 := ltjAk q h2; omega)
     have dis279 : ∀ q, F266 q → ¬ G q := fun q h1 h2 => by rcases hfr268 q h1 with h | h; exact dis180 q h h2; (have h4 := hGlt q h2; omega)
     have own281 : ∀ q, F269 q → (q < w33.heap.size ∨ M1 ≤ q) ∧ q ≠ r ∧ q ≠ b1 ∧ q ≠ b3 ∧ q ≠ b5 ∧ q ≠ b7 ∧ q ≠ b29 ∧ q ≠ bs36 ∧ q ≠ bn37 ∧ q ≠ b41 ∧ q ≠ b13 := fun q hq => by rcases hfr271 q hq with h | h; (have h1 := hFko q h; have h2 := lt40 q h; omega); omega
     have lt280 := VotT.lt ho270
     have rel282 : ∀ q, F269 q → F q ∨ w.heap.size ≤ q := fun q hq => by rcases hfr271 q hq with h | h; exact hFkr q h; exact .inr (by omega)
     have dis283 : ∀ q, F269 q → ¬ inA A q := fun q h1 h2 => by rcases hfr271 q h1 with h | h; exact dFA q h h2; (have h4 := ltjA q h2; omega)
     have dis284 : ∀ q, F269 q → ¬ inA A2 q := fun q h1 h2 => by rcases hfr271 q h1 with h | h; exact dFA2 q h h2; (have h4 := ltjA2 q h2; omega)
     have dis285 : ∀ q, F269 q → ¬ inA Ak q := fun q h1 h2 => by rcases hfr271 q h1 with h | h; exact (fun q h1 h2 => dAkF q h2 h1) q h h2; (have h4 := ltjAk q h2; omega)
     have dis286 : ∀ q, F269 q → ¬ G q := fun q h1 h2 => by rcases hfr271 q h1 with h | h; exact dFG q h h2; (have h4 := hGlt q h2; omega)
     refine GI_slit (E := 53) (zv := .agg #[nt 0, nt 0, nt 0]) (sz := 3) (by_ := 24) 50 1 #[(0, (Operand.tmp 73))] [.agg (Evt.cells (Evt.mk 1 (k : Int) (decE ts x (tallyT ((svcK ts (tot xs) now r1 ⟨s, r1, []⟩ k).s) (k : Int)) (tot xs) now))).toArray] (Evt.cells (Evt.mk 1 (k : Int) (decE ts x (tallyT ((svcK ts (tot xs) now r1 ⟨s, r1, []⟩ k).s) (k : Int)) (tot xs) now))) (some 74) (by kernel_rfl) (by kernel_rfl) K273 (by kernel_rfl) (by kernel_rfl) (by omega) rfl (by omega) (by intro v hv; obtain rfl := List.mem_singleton.1 hv; show (Evt.cells (Evt.mk 1 (k : Int) (decE ts x (tallyT ((svcK ts (tot xs) now r1 ⟨s, r1, []⟩ k).s) (k : Int)) (tot xs) now))).toArray.size = 3; simp [Evt.len]) (by kernel_rfl) (by show (Evt.cells (Evt.mk 1 (k : Int) (decE ts x (tallyT ((svcK ts (tot xs) now r1 ⟨s, r1, []⟩ k).s) (k : Int)) (tot xs) now))).toArray.toList ++ [] = _; simp) ?_
     intro b287 w287 e287 hb287 k287 z287 K288
     have hsz289 := Keep.size k287
     replace jr := jr.k0 k287
     replace jb1 := jb1.k0 k287
     replace jb3 := jb3.k0 k287
     replace jb5 := jb5.k0 k287
     replace jb7 := jb7.k0 k287
     replace jb29 := jb29.k0 k287
     replace jbs36 := jbs36.k0 k287
     replace jbn37 := jbn37.k0 k287
     replace hb41_46 := hb41_46.k0 k287
     replace hb13 := hb13.k0 k287
     replace jA := jA.keep0 k287
     replace jA2 := jA2.keep0 k287
     replace jAk := jAk.keep0 k287
     replace jhl := jhl.keep k287 nk
     replace jhK0 := jhK0.tn k287
     replace hfenb := hfenb.tn k287
     replace ho267 := ho267.keep k287 nk
     replace ho270 := ho270.keep k287 nk
     have hb287lt := hb287.lt
     refine GI_cellA 50 (.tmp 10) 0 (.slice Ak ((svcK ts (tot xs) now r1 ⟨s, r1, []⟩ k).out.length) capk) (some 67) (by kernel_rfl) (by kernel_rfl) K288 (by kernel_rfl) jb29 (m := 1) (by kernel_rfl) rfl ?_
     refine GI_final 8 (by kernel_rfl) (by kernel_rfl) ?_
     refine OI_append (t := 50) (at2 := 50) (E := 53) (E2 := 53) (sz := 3) (by_ := 24) (zv := .agg #[nt 0, nt 0, nt 0]) (m := ((svcK ts (tot xs) now r1 ⟨s, r1, []⟩ k).out).length) (k := 1) (.tmp 67) (.tmp 74) (.slice Ak ((svcK ts (tot xs) now r1 ⟨s, r1, []⟩ k).out.length) capk) (sl_ b287 0 1 1) (some 75) (by kernel_rfl) (by kernel_rfl) (by kernel_rfl) (by kernel_rfl) (by kernel_rfl) (by kernel_rfl) (by kernel_rfl) (SlT.slr jAk) (slr_one hb287 (Evt.len ((Evt.mk 1 (k : Int) (decE ts x (tallyT ((svcK ts (tot xs) now r1 ⟨s, r1, []⟩ k).s) (k : Int)) (tot xs) now))))) (Evt.one ((Evt.mk 1 (k : Int) (decE ts x (tallyT ((svcK ts (tot xs) now r1 ⟨s, r1, []⟩ k).s) (k : Int)) (tot xs) now)))) (by first | omega | (simp only [List.length_nil]; omega)) (by omega) (by first | omega | (simp only [List.length_nil]; omega)) (by omega) ?_
     intro vv9 w290 hap
     obtain ⟨A290, cap290, rfl, hA290, hk290, own290x⟩ := app_one (f := Evt.cells) (xs := ((svcK ts (tot xs) now r1 ⟨s, r1, []⟩ k).out)) (x := ((Evt.mk 1 (k : Int) (decE ts x (tallyT ((svcK ts (tot xs) now r1 ⟨s, r1, []⟩ k).s) (k : Int)) (tot xs) now)))) (A := Ak) (cap := capk) hap (fun x _ => Evt.len x) (Evt.len _)
     have own290 : ∀ q, inA A290 q → M1 ≤ q := fun q hq => by rcases own290x q hq with h | h; exact ownk q h; (show M1 ≤ q; omega)
     have hsz291 := Keep.size hk290
     replace jr := jr.keep hk290 (fun hs => by have h1 := ownk _ hs; have h2 := ltjAk _ hs; omega)
     replace jb1 := jb1.keep hk290 (fun hs => by have h1 := ownk _ hs; have h2 := ltjAk _ hs; omega)
     replace jb3 := jb3.keep hk290 (fun hs => by have h1 := ownk _ hs; have h2 := ltjAk _ hs; omega)
     replace jb5 := jb5.keep hk290 (fun hs => by have h1 := ownk _ hs; have h2 := ltjAk _ hs; omega)
     replace jb7 := jb7.keep hk290 (fun hs => by have h1 := ownk _ hs; have h2 := ltjAk _ hs; omega)
     replace jb29 := jb29.keep hk290 (fun hs => by have h1 := ownk _ hs; have h2 := ltjAk _ hs; omega)
     replace jbs36 := jbs36.keep hk290 (fun hs => by have h1 := ownk _ hs; have h2 := ltjAk _ hs; omega)
     replace jbn37 := jbn37.keep hk290 (fun hs => by have h1 := ownk _ hs; have h2 := ltjAk _ hs; omega)
     replace hb41_46 := hb41_46.keep hk290 (fun hs => by have h1 := ownk _ hs; have h2 := ltjAk _ hs; omega)
     replace hb13 := hb13.keep hk290 (fun hs => by have h1 := ownk _ hs; have h2 := ltjAk _ hs; omega)
     replace jA := jA.keep hk290 (fun q hq hs => by have g0 := hAr q hq; have g1 := ltjA q hq; have h1 := ownk q hs; have h2 := ltjAk q hs; omega)
     replace jA2 := jA2.keep hk290 (fun q hq hs => by have g0 := owA2 q hq; have g1 := ltjA2 q hq; have h1 := ownk q hs; have h2 := ltjAk q hs; omega)
     replace jhl := jhl.keep hk290 (fun q hq hs => (fun (q : Nat) (h1 : inA Ak q) (h2 : G q) => by have h3 := ownk q h1; have h4 := hGlt q h2; omega) q hs hq)
     replace jhK0 := Keep.fresh jhK0 hk290 (by intro i hi hs; first | exact hs | (exfalso; have h1 := ownk i hs; have h2 := ltjAk i hs; omega) | (have h1 := ownk i hs; have h2 := ltjAk i hs; show _ ∨ _; omega))
     replace hfenb := Keep.fresh hfenb hk290 (by intro i hi hs; have h1 := ownk i hs; have h2 := ltjAk i hs; show _ ∨ _; omega)
     replace ho267 := ho267.keep hk290 (fun q hq hs => (fun q h1 h2 => dis278 q h2 h1) q hs hq)
     replace ho270 := ho270.keep hk290 (fun q hq hs => (fun q h1 h2 => dis285 q h2 h1) q hs hq)
     have lt290 := SlT.lt hA290
     have dis292 : ∀ q, inA A290 q → ¬ G q := fun q h1 h2 => by rcases own290x q h1 with h | h; exact (fun (q : Nat) (h1 : G q) (h2 : inA Ak q) => by have h3 := ownk q h2; have h4 := hGlt q h1; omega) q h2 h; (have h4 := hGlt q h2; omega)
     have dis293 : ∀ q, inA A290 q → ¬ F266 q := fun q h1 h2 => by rcases own290x q h1 with h | h; exact dis278 q h2 h; (have h4 := lt275 q h2; omega)
     have dis294 : ∀ q, inA A290 q → ¬ F269 q := fun q h1 h2 => by rcases own290x q h1 with h | h; exact dis285 q h2 h; (have h4 := lt280 q h2; omega)
     refine Ot 50 (.tmp 10) (.tmp 75) 0 (.slice A290 (((svcK ts (tot xs) now r1 ⟨s, r1, []⟩ k).out ++ [((Evt.mk 1 (k : Int) (decE ts x (tallyT ((svcK ts (tot xs) now r1 ⟨s, r1, []⟩ k).s) (k : Int)) (tot xs) now)))]).length) cap290) jb29 ?_
     intro w295 hb29_298 hk296 hz297
     replace hb29_298 : Blk w295 b29 [.slice A290 (((svcK ts (tot xs) now r1 ⟨s, r1, []⟩ k).out ++ [((Evt.mk 1 (k : Int) (decE ts x (tallyT ((svcK ts (tot xs) now r1 ⟨s, r1, []⟩ k).s) (k : Int)) (tot xs) now)))]).length) cap290] 50 := hb29_298
     have hsz299 := Keep.size hk296
     replace jr := jr.k1 hk296
     replace jb1 := jb1.k1 hk296
     replace jb3 := jb3.k1 hk296
     replace jb5 := jb5.k1 hk296
     replace jb7 := jb7.k1 hk296
     replace jbs36 := jbs36.k1 hk296
     replace jbn37 := jbn37.k1 hk296
     replace hb41_46 := hb41_46.k1 hk296
     replace hb13 := hb13.k1 hk296
     replace jA := jA.keep hk296 (fun q hq hs => by have hs : q = b29 := hs; have g0 := hAr q hq; have g1 := ltjA q hq; omega)
     replace jA2 := jA2.keep hk296 (fun q hq hs => by have hs : q = b29 := hs; have g0 := owA2 q hq; have g1 := ltjA2 q hq; omega)
     replace hA290 := hA290.keep hk296 (fun q hq hs => by have hs : q = b29 := hs; have g0 := own290 q hq; have g1 := lt290 q hq; omega)
     replace jhl := jhl.keep hk296 (fun q hq hs => by have hs : q = b29 := hs; have g0 := hlr q hq; have g1 := hGlt q hq; omega)
     replace jhK0 := Keep.fr jhK0 hk296
     replace hfenb := Keep.fresh hfenb hk296 (by intro i hi hs; have hs2 : i = b29 := hs; show _ ∨ _; omega)
     replace ho267 := ho267.keep hk296 (fun q hq hs => by have hs : q = b29 := hs; have g0 := own276 q hq; have g1 := lt275 q hq; omega)
     replace ho270 := ho270.keep hk296 (fun q hq hs => by have hs : q = b29 := hs; have g0 := own281 q hq; have g1 := lt280 q hq; omega)
     refine OI_end rfl ?_
     refine X_block ?_
     have hq9 := hstp.trans (step_end hc49 hc182)
     rw [endR_set (by omega)] at ho267
     exact fun a _ => ⟨hfenb, A290, cap290, F266, F269, jr, jb1, jb3, jb5, jb7, jbs36, jbn37, jA, jA2, jhl, jhK0, by rw [hq9]; exact hb29_298, by rw [hq9]; exact hA290, by rw [hq9]; exact ho267, by rw [hq9]; exact ho270, own290, (fun q hq => by have h1 := own276 q hq; have h2 := lt275 q hq; omega), rel277, (fun q hq => by have h1 := own281 q hq; have h2 := lt280 q hq; omega), rel282, hdis272, dis279, dis286, dis284, dis283, dis293, dis294⟩
   refine V_skip ?_
   refine X_block ?_
   have hq9 := hstp.trans (step_on hc49 hc182)
   exact fun a _ => ⟨hfenb, Ak, capk, H172, Fk, jr, jb1, jb3, jb5, jb7, jbs36, jbn37, jA, jA2, jhl, jhK0, by rw [hq9]; exact jb29, by rw [hq9]; exact jAk, by rw [hq9]; exact hR173, by rw [hq9]; exact jV, ownk, (fun q hq => by have h1 := own177 q hq; have h2 := lt176 q hq; omega), rel178, (fun q hq => by have h1 := hFko q hq; have h2 := lt40 q hq; omega), hFkr, dis181, dis180, dFG, dFA2, dFA, (fun q h1 h2 => dis179 q h2 h1), dAkF⟩
 ·
  intro D M1 W hD hM ⟨Ak, capk, Hk, Fk, jr, jb1, jb3, jb5, jb7, jbs36, jbn37, jA, jA2, jhl, jhK0, jb29, jAk, jR, jV, ownk, hHko, hHkr, hFko, hFkr, dHF, dHG, dFG, dFA2, dFA, dAkH, dAkF⟩ hDD
  have hzjhK0 := Keep.size jhK0
  have hrlt := jr.lt
  have hb1lt := jb1.lt
  have hb3lt := jb3.lt
  have hb5lt := jb5.lt
  have hb7lt := jb7.lt
  have hb29lt := jb29.lt
  have hbs36lt := jbs36.lt
  have hbn37lt := jbn37.lt
  have ltjA := SlT.lt jA
  have ltjA2 := SlT.lt jA2
  have ltjAk := SlT.lt jAk
  have lt300 := Rfr.lt jR
  have lt301 := VotT.lt jV
  refine X_block ?_
  refine X_then ?_
  refine Vr ?_
  refine Oc 50 (.tmp 10) 0 (.slice Ak ((svcK ts (tot xs) now r1 ⟨s, r1, []⟩ r1.length).out.length) capk) (some 76) jb29 rfl ?_
  refine Ose [(8, .slice Ak ((svcK ts (tot xs) now r1 ⟨s, r1, []⟩ r1.length).out.length) capk)] ?_
  refine V_ret ?_
  have hfin : svcQ ts xs s rs now = svcK ts (tot xs) now r1 ⟨s, r1, []⟩ r1.length := by unfold svcQ; rw [← hr1, hr1l]
  exact leave1 (.slice Ak (svcK ts (tot xs) now r1 ⟨s, r1, []⟩ r1.length).out.length capk) (.inl rfl) hDD (fun w' hk => ⟨res_tmps rfl, ⟨Ak, capk, by rw [hfin], by rw [hfin]; exact SlT.quiet jAk hk, (fun q h => by have h1 := ownk q h; omega), ⟨Hk, Fk, by rw [hfin]; exact Rfr.quiet jR hk, by rw [hfin]; exact VotT.quiet jV hk, hHkr, hFkr, dHF, dAkH, dAkF⟩, Keep.quiet jhK0 hk (by omega)⟩⟩)
end Go.Al

namespace Go.Al
open Go Go.RowKit Go.Proofs
set_option maxRecDepth 10000 in
theorem r4In_spec (n lo hi : Int) (w : World) : Calls Tryz.prog 168 #[nt n, nt lo, nt hi] w fun e w' => e = .returned (.bool (decide (lo ≤ n ∧ n ≤ hi))) ∧ w' = w := by
 refine enterV Tryz.func168 rfl [nt n, nt lo, nt hi] 15 rfl rfl rfl ?_
 refine Vr ?_
 refine On 1 [0, 1, 2] ?_
 refine Oer ?_
 refine Os 4 [(0, nt n), (2, nt hi), (10, .bool (decide (n ≥ lo)))] ?_
 by_cases hg1 : n ≥ lo
 ·
  refine OI_eq [(0, nt n), (2, nt hi), (10, .bool true)] (by first | simp [hg1] | rfl) ?_
  refine Ose [(6, .bool (decide (n ≤ hi)))] ?_
  refine V_ret ?_
  exact X_return (.bool (decide (n ≤ hi))) rfl ⟨by congr 2; simp only [Bool.decide_and]; by_cases h1 : lo ≤ n <;> simp [h1] <;> omega, rfl⟩
 refine OI_eq [(0, nt n), (2, nt hi), (10, .bool false)] (by first | simp [hg1] | rfl) ?_
 refine Ose [(6, .bool false)] ?_
 refine V_ret ?_
 exact X_return (.bool false) rfl ⟨by congr 2; simp only [Bool.decide_and]; by_cases h1 : lo ≤ n <;> simp [h1] <;> omega, rfl⟩
set_option maxRecDepth 10000 in
theorem r10In_spec (n lo hi : Int) (w : World) : Calls Tryz.prog 118 #[nt n, nt lo, nt hi] w fun e w' => e = .returned (.bool (decide (lo ≤ n ∧ n ≤ hi))) ∧ w' = w := by
 refine enterV Tryz.func118 rfl [nt n, nt lo, nt hi] 15 rfl rfl rfl ?_
 refine Vr ?_
 refine On 1 [0, 1, 2] ?_
 refine Oer ?_
 refine Os 4 [(0, nt n), (2, nt hi), (10, .bool (decide (n ≥ lo)))] ?_
 by_cases hg1 : n ≥ lo
 ·
  refine OI_eq [(0, nt n), (2, nt hi), (10, .bool true)] (by first | simp [hg1] | rfl) ?_
  refine Ose [(6, .bool (decide (n ≤ hi)))] ?_
  refine V_ret ?_
  exact X_return (.bool (decide (n ≤ hi))) rfl ⟨by congr 2; simp only [Bool.decide_and]; by_cases h1 : lo ≤ n <;> simp [h1] <;> omega, rfl⟩
 refine OI_eq [(0, nt n), (2, nt hi), (10, .bool false)] (by first | simp [hg1] | rfl) ?_
 refine Ose [(6, .bool false)] ?_
 refine V_ret ?_
 exact X_return (.bool false) rfl ⟨by congr 2; simp only [Bool.decide_and]; by_cases h1 : lo ≤ n <;> simp [h1] <;> omega, rfl⟩
set_option maxRecDepth 10000 in
theorem r4Is_spec (c : Crv) (w : World) : Calls Tryz.prog 119 #[.agg c.cells.toArray] w fun e w' => e = .returned (.bool (decide (okCrv c))) ∧ Keep none_ w w' := by
 have hK0 : Keep none_ w w := Keep.refl _ _
 have hzhK0 := Keep.size hK0
 refine enterV Tryz.func119 rfl [.agg (Crv.cells c).toArray] 69 rfl rfl rfl ?_
 refine Vr ?_
 refine OI_box 25 (.tmp 0) (.agg (Crv.cells c).toArray) (Crv.cells c) (some 1) (by kernel_rfl) (by kernel_rfl) rfl ?_
 intro b1 w1 e1 hb1 k1 z1
 have hsz2 := Keep.size k1
 replace hK0 := hK0.tn k1
 have hb1lt := hb1.lt
 refine On 2 [1] ?_
 refine Oe ?_
 refine V_seq ?_
 refine Vr ?_
 refine On 1 [1, 3] ?_
 refine Oc 3 (.tmp 3) 0 (nt c.k) (some 4) hb1 rfl ?_
 refine Oe ?_
 refine V_block ?_
 refine Vs [(1, pt b1), (4, nt c.k), (5, .bool (decide (c.k = 1)))] ?_
 refine V_if (c.k = 1) (by kernel_rfl) (fun hc3 => ?_) (fun hc3 => ?_)
 ·
  refine Vr ?_
  refine On 1 [1, 7] ?_
  refine Oc 3 (.tmp 7) 1 (nt c.a) (some 8) hb1 rfl ?_
  refine Ok (kl 168 #[(.tmp 8), (.const (nt 0)), (.const (nt 1000000000))] #[3, 3, 3]) 168 #[nt c.a, nt 0, nt 1000000000] (some 9) (r4In_spec c.a 0 1000000000 _) ?_
  rintro _ w1 ⟨rfl, rfl⟩
  refine ⟨_, rfl, ?_⟩
  refine Os 4 [(1, pt b1), (10, .bool (decide ((0 : Int) ≤ c.a ∧ c.a ≤ 1000000000)))] ?_
  by_cases hg7 : (0 : Int) ≤ c.a ∧ c.a ≤ 1000000000
  ·
   refine OI_eq [(1, pt b1), (10, .bool true)] (by first | simp [hg7] | rfl) ?_
   refine On 5 [1, 10, 11] ?_
   refine Oc 3 (.tmp 11) 2 (nt c.b) (some 12) hb1 rfl ?_
   refine On 7 [1, 10, 12, 13] ?_
   refine Oc 3 (.tmp 13) 1 (nt c.a) (some 14) hb1 rfl ?_
   refine Ok (kl 168 #[(.tmp 12), (.const (nt 0)), (.tmp 14)] #[3, 3, 3]) 168 #[nt c.b, nt 0, nt c.a] (some 15) (r4In_spec c.b 0 c.a _) ?_
   rintro _ w1 ⟨rfl, rfl⟩
   refine ⟨_, rfl, ?_⟩
   refine Os 11 [(1, pt b1), (17, .bool (decide ((0 : Int) ≤ c.b ∧ c.b ≤ c.a)))] ?_
   by_cases hg11 : (0 : Int) ≤ c.b ∧ c.b ≤ c.a
   ·
    refine OI_eq [(1, pt b1), (17, .bool true)] (by first | simp [hg11] | rfl) ?_
    refine On 12 [1, 17, 18] ?_
    refine Oc 3 (.tmp 18) 3 (nt c.c) (some 19) hb1 rfl ?_
    refine Ok (kl 168 #[(.tmp 19), (.const (nt 1)), (.const (nt 1000000000))] #[3, 3, 3]) 168 #[nt c.c, nt 1, nt 1000000000] (some 20) (r4In_spec c.c 1 1000000000 _) ?_
    rintro _ w1 ⟨rfl, rfl⟩
    refine ⟨_, rfl, ?_⟩
    refine Os 16 [(1, pt b1), (22, .bool (decide ((1 : Int) ≤ c.c ∧ c.c ≤ 1000000000)))] ?_
    by_cases hg15 : (1 : Int) ≤ c.c ∧ c.c ≤ 1000000000
    ·
     refine OI_eq [(1, pt b1), (22, .bool true)] (by first | simp [hg15] | rfl) ?_
     refine On 17 [22, 23] ?_
     refine Oc 3 (.tmp 23) 4 (nt c.d) (some 24) hb1 rfl ?_
     refine Ose [(2, .bool (decide (c.d = 0)))] ?_
     refine V_ret ?_
     refine X_ret_block ?_
     refine X_ret_then ?_
     exact X_return (.bool (decide (c.d = 0))) rfl ⟨by congr 2; first | (apply Eq.symm; (try simp only [decide_eq_true_eq]); (try simp only [decide_eq_false_iff_not]); unfold okCrv fallsC; simp_all <;> omega) | (rw [decide_eq_decide]; unfold okCrv fallsC; simp_all <;> omega), hK0⟩
    refine OI_eq [(1, pt b1), (22, .bool false)] (by first | simp [hg15] | rfl) ?_
    refine Ose [(2, .bool false)] ?_
    refine V_ret ?_
    refine X_ret_block ?_
    refine X_ret_then ?_
    exact X_return (.bool false) rfl ⟨by congr 2; first | (apply Eq.symm; (try simp only [decide_eq_true_eq]); (try simp only [decide_eq_false_iff_not]); unfold okCrv fallsC; simp_all <;> omega) | (rw [decide_eq_decide]; unfold okCrv fallsC; simp_all <;> omega), hK0⟩
   refine OI_eq [(1, pt b1), (17, .bool false)] (by first | simp [hg11] | rfl) ?_
   refine Ose [(2, .bool false)] ?_
   refine V_ret ?_
   refine X_ret_block ?_
   refine X_ret_then ?_
   exact X_return (.bool false) rfl ⟨by congr 2; first | (apply Eq.symm; (try simp only [decide_eq_true_eq]); (try simp only [decide_eq_false_iff_not]); unfold okCrv fallsC; simp_all <;> omega) | (rw [decide_eq_decide]; unfold okCrv fallsC; simp_all <;> omega), hK0⟩
  refine OI_eq [(1, pt b1), (10, .bool false)] (by first | simp [hg7] | rfl) ?_
  refine Ose [(2, .bool false)] ?_
  refine V_ret ?_
  refine X_ret_block ?_
  refine X_ret_then ?_
  exact X_return (.bool false) rfl ⟨by congr 2; first | (apply Eq.symm; (try simp only [decide_eq_true_eq]); (try simp only [decide_eq_false_iff_not]); unfold okCrv fallsC; simp_all <;> omega) | (rw [decide_eq_decide]; unfold okCrv fallsC; simp_all <;> omega), hK0⟩
 refine Vs [(1, pt b1), (4, nt c.k), (27, .bool (decide (c.k = 2)))] ?_
 refine V_if (c.k = 2) (by kernel_rfl) (fun hc16 => ?_) (fun hc16 => ?_)
 ·
  refine Vr ?_
  refine On 1 [1, 29] ?_
  refine Oc 3 (.tmp 29) 1 (nt c.a) (some 30) hb1 rfl ?_
  refine Ok (kl 168 #[(.tmp 30), (.const (nt 0)), (.const (nt 1000000000))] #[3, 3, 3]) 168 #[nt c.a, nt 0, nt 1000000000] (some 31) (r4In_spec c.a 0 1000000000 _) ?_
  rintro _ w1 ⟨rfl, rfl⟩
  refine ⟨_, rfl, ?_⟩
  refine Os 4 [(1, pt b1), (32, .bool (decide ((0 : Int) ≤ c.a ∧ c.a ≤ 1000000000)))] ?_
  by_cases hg20 : (0 : Int) ≤ c.a ∧ c.a ≤ 1000000000
  ·
   refine OI_eq [(1, pt b1), (32, .bool true)] (by first | simp [hg20] | rfl) ?_
   refine On 5 [1, 32, 33] ?_
   refine Oc 3 (.tmp 33) 2 (nt c.b) (some 34) hb1 rfl ?_
   refine On 7 [1, 32, 34, 35] ?_
   refine Oc 3 (.tmp 35) 1 (nt c.a) (some 36) hb1 rfl ?_
   refine Ok (kl 168 #[(.tmp 34), (.const (nt 0)), (.tmp 36)] #[3, 3, 3]) 168 #[nt c.b, nt 0, nt c.a] (some 37) (r4In_spec c.b 0 c.a _) ?_
   rintro _ w1 ⟨rfl, rfl⟩
   refine ⟨_, rfl, ?_⟩
   refine Os 11 [(1, pt b1), (39, .bool (decide ((0 : Int) ≤ c.b ∧ c.b ≤ c.a)))] ?_
   by_cases hg24 : (0 : Int) ≤ c.b ∧ c.b ≤ c.a
   ·
    refine OI_eq [(1, pt b1), (39, .bool true)] (by first | simp [hg24] | rfl) ?_
    refine On 12 [1, 39, 40] ?_
    refine Oc 3 (.tmp 40) 3 (nt c.c) (some 41) hb1 rfl ?_
    refine Ok (kl 168 #[(.tmp 41), (.const (nt 1)), (.const (nt 1000000000))] #[3, 3, 3]) 168 #[nt c.c, nt 1, nt 1000000000] (some 42) (r4In_spec c.c 1 1000000000 _) ?_
    rintro _ w1 ⟨rfl, rfl⟩
    refine ⟨_, rfl, ?_⟩
    refine Os 16 [(1, pt b1), (44, .bool (decide ((1 : Int) ≤ c.c ∧ c.c ≤ 1000000000)))] ?_
    by_cases hg28 : (1 : Int) ≤ c.c ∧ c.c ≤ 1000000000
    ·
     refine OI_eq [(1, pt b1), (44, .bool true)] (by first | simp [hg28] | rfl) ?_
     refine On 17 [44, 45] ?_
     refine Oc 3 (.tmp 45) 4 (nt c.d) (some 46) hb1 rfl ?_
     refine Ok (kl 168 #[(.tmp 46), (.const (nt 1)), (.const (nt 1000000000))] #[3, 3, 3]) 168 #[nt c.d, nt 1, nt 1000000000] (some 47) (r4In_spec c.d 1 1000000000 _) ?_
     rintro _ w1 ⟨rfl, rfl⟩
     refine ⟨_, rfl, ?_⟩
     refine Ose [(2, .bool (decide ((1 : Int) ≤ c.d ∧ c.d ≤ 1000000000)))] ?_
     refine V_ret ?_
     refine X_ret_block ?_
     refine X_ret_then ?_
     exact X_return (.bool (decide ((1 : Int) ≤ c.d ∧ c.d ≤ 1000000000))) rfl ⟨by congr 2; first | (apply Eq.symm; (try simp only [decide_eq_true_eq]); (try simp only [decide_eq_false_iff_not]); unfold okCrv fallsC; simp_all <;> omega) | (rw [decide_eq_decide]; unfold okCrv fallsC; simp_all <;> omega), hK0⟩
    refine OI_eq [(1, pt b1), (44, .bool false)] (by first | simp [hg28] | rfl) ?_
    refine Ose [(2, .bool false)] ?_
    refine V_ret ?_
    refine X_ret_block ?_
    refine X_ret_then ?_
    exact X_return (.bool false) rfl ⟨by congr 2; first | (apply Eq.symm; (try simp only [decide_eq_true_eq]); (try simp only [decide_eq_false_iff_not]); unfold okCrv fallsC; simp_all <;> omega) | (rw [decide_eq_decide]; unfold okCrv fallsC; simp_all <;> omega), hK0⟩
   refine OI_eq [(1, pt b1), (39, .bool false)] (by first | simp [hg24] | rfl) ?_
   refine Ose [(2, .bool false)] ?_
   refine V_ret ?_
   refine X_ret_block ?_
   refine X_ret_then ?_
   exact X_return (.bool false) rfl ⟨by congr 2; first | (apply Eq.symm; (try simp only [decide_eq_true_eq]); (try simp only [decide_eq_false_iff_not]); unfold okCrv fallsC; simp_all <;> omega) | (rw [decide_eq_decide]; unfold okCrv fallsC; simp_all <;> omega), hK0⟩
  refine OI_eq [(1, pt b1), (32, .bool false)] (by first | simp [hg20] | rfl) ?_
  refine Ose [(2, .bool false)] ?_
  refine V_ret ?_
  refine X_ret_block ?_
  refine X_ret_then ?_
  exact X_return (.bool false) rfl ⟨by congr 2; first | (apply Eq.symm; (try simp only [decide_eq_true_eq]); (try simp only [decide_eq_false_iff_not]); unfold okCrv fallsC; simp_all <;> omega) | (rw [decide_eq_decide]; unfold okCrv fallsC; simp_all <;> omega), hK0⟩
 refine Vs [(1, pt b1), (49, .bool (decide (c.k = 3)))] ?_
 refine V_if (c.k = 3) (by kernel_rfl) (fun hc32 => ?_) (fun hc32 => ?_)
 ·
  refine Vr ?_
  refine On 1 [1, 51] ?_
  refine Oc 3 (.tmp 51) 1 (nt c.a) (some 52) hb1 rfl ?_
  refine Ok (kl 168 #[(.tmp 52), (.const (nt 0)), (.const (nt 1000000000))] #[3, 3, 3]) 168 #[nt c.a, nt 0, nt 1000000000] (some 53) (r4In_spec c.a 0 1000000000 _) ?_
  rintro _ w1 ⟨rfl, rfl⟩
  refine ⟨_, rfl, ?_⟩
  refine Os 4 [(1, pt b1), (54, .bool (decide ((0 : Int) ≤ c.a ∧ c.a ≤ 1000000000)))] ?_
  by_cases hg36 : (0 : Int) ≤ c.a ∧ c.a ≤ 1000000000
  ·
   refine OI_eq [(1, pt b1), (54, .bool true)] (by first | simp [hg36] | rfl) ?_
   refine On 5 [1, 54, 55] ?_
   refine Oc 3 (.tmp 55) 2 (nt c.b) (some 56) hb1 rfl ?_
   refine Ok (kl 168 #[(.tmp 56), (.const (nt 1)), (.const (nt 1000000000))] #[3, 3, 3]) 168 #[nt c.b, nt 1, nt 1000000000] (some 57) (r4In_spec c.b 1 1000000000 _) ?_
   rintro _ w1 ⟨rfl, rfl⟩
   refine ⟨_, rfl, ?_⟩
   refine Os 9 [(1, pt b1), (59, .bool (decide ((1 : Int) ≤ c.b ∧ c.b ≤ 1000000000)))] ?_
   by_cases hg40 : (1 : Int) ≤ c.b ∧ c.b ≤ 1000000000
   ·
    refine OI_eq [(1, pt b1), (59, .bool true)] (by first | simp [hg40] | rfl) ?_
    refine On 10 [1, 59, 60] ?_
    refine Oc 3 (.tmp 60) 3 (nt c.c) (some 61) hb1 rfl ?_
    refine Ok (kl 168 #[(.tmp 61), (.const (nt 0)), (.const (nt 1000000000))] #[3, 3, 3]) 168 #[nt c.c, nt 0, nt 1000000000] (some 62) (r4In_spec c.c 0 1000000000 _) ?_
    rintro _ w1 ⟨rfl, rfl⟩
    refine ⟨_, rfl, ?_⟩
    refine Os 14 [(1, pt b1), (64, .bool (decide ((0 : Int) ≤ c.c ∧ c.c ≤ 1000000000)))] ?_
    by_cases hg44 : (0 : Int) ≤ c.c ∧ c.c ≤ 1000000000
    ·
     refine OI_eq [(1, pt b1), (64, .bool true)] (by first | simp [hg44] | rfl) ?_
     refine On 15 [64, 65] ?_
     refine Oc 3 (.tmp 65) 4 (nt c.d) (some 66) hb1 rfl ?_
     refine Ose [(2, .bool (decide (c.d = 0)))] ?_
     refine V_ret ?_
     refine X_ret_block ?_
     refine X_ret_then ?_
     exact X_return (.bool (decide (c.d = 0))) rfl ⟨by congr 2; first | (apply Eq.symm; (try simp only [decide_eq_true_eq]); (try simp only [decide_eq_false_iff_not]); unfold okCrv fallsC; simp_all <;> omega) | (rw [decide_eq_decide]; unfold okCrv fallsC; simp_all <;> omega), hK0⟩
    refine OI_eq [(1, pt b1), (64, .bool false)] (by first | simp [hg44] | rfl) ?_
    refine Ose [(2, .bool false)] ?_
    refine V_ret ?_
    refine X_ret_block ?_
    refine X_ret_then ?_
    exact X_return (.bool false) rfl ⟨by congr 2; first | (apply Eq.symm; (try simp only [decide_eq_true_eq]); (try simp only [decide_eq_false_iff_not]); unfold okCrv fallsC; simp_all <;> omega) | (rw [decide_eq_decide]; unfold okCrv fallsC; simp_all <;> omega), hK0⟩
   refine OI_eq [(1, pt b1), (59, .bool false)] (by first | simp [hg40] | rfl) ?_
   refine Ose [(2, .bool false)] ?_
   refine V_ret ?_
   refine X_ret_block ?_
   refine X_ret_then ?_
   exact X_return (.bool false) rfl ⟨by congr 2; first | (apply Eq.symm; (try simp only [decide_eq_true_eq]); (try simp only [decide_eq_false_iff_not]); unfold okCrv fallsC; simp_all <;> omega) | (rw [decide_eq_decide]; unfold okCrv fallsC; simp_all <;> omega), hK0⟩
  refine OI_eq [(1, pt b1), (54, .bool false)] (by first | simp [hg36] | rfl) ?_
  refine Ose [(2, .bool false)] ?_
  refine V_ret ?_
  refine X_ret_block ?_
  refine X_ret_then ?_
  exact X_return (.bool false) rfl ⟨by congr 2; first | (apply Eq.symm; (try simp only [decide_eq_true_eq]); (try simp only [decide_eq_false_iff_not]); unfold okCrv fallsC; simp_all <;> omega) | (rw [decide_eq_decide]; unfold okCrv fallsC; simp_all <;> omega), hK0⟩
 refine V_skip ?_
 refine X_block ?_
 refine X_then ?_
 refine Vs [(2, .bool false)] ?_
 refine V_ret ?_
 exact X_return (.bool false) rfl ⟨by congr 2; first | (apply Eq.symm; (try simp only [decide_eq_true_eq]); (try simp only [decide_eq_false_iff_not]); unfold okCrv fallsC; simp_all <;> omega) | (rw [decide_eq_decide]; unfold okCrv fallsC; simp_all <;> omega), hK0⟩
set_option maxRecDepth 10000 in
theorem r10Is_spec (x : Trk) (w : World) : Calls Tryz.prog 78 #[.agg x.cells.toArray] w fun e w' => e = .returned (.bool (decide (okTrk x))) ∧ Keep none_ w w' := by
 have hK0 : Keep none_ w w := Keep.refl _ _
 have hzhK0 := Keep.size hK0
 refine enterV Tryz.func78 rfl [.agg (Trk.cells x).toArray] 51 rfl rfl rfl ?_
 refine Vr ?_
 refine OI_box 27 (.tmp 0) (.agg (Trk.cells x).toArray) (Trk.cells x) (some 1) (by kernel_rfl) (by kernel_rfl) rfl ?_
 intro b1 w1 e1 hb1 k1 z1
 have hsz2 := Keep.size k1
 replace hK0 := hK0.tn k1
 have hb1lt := hb1.lt
 refine On 2 [1] ?_
 refine Oer ?_
 refine On 1 [1, 3] ?_
 refine Oc 3 (.tmp 3) 0 (nt x.most) (some 4) hb1 rfl ?_
 refine Ok (kl 118 #[(.tmp 4), (.const (nt 1)), (.const (nt 12))] #[3, 3, 3]) 118 #[nt x.most, nt 1, nt 12] (some 5) (r10In_spec x.most 1 12 _) ?_
 rintro _ w1 ⟨rfl, rfl⟩
 refine ⟨_, rfl, ?_⟩
 refine Os 4 [(1, pt b1), (6, .bool (decide ((1 : Int) ≤ x.most ∧ x.most ≤ 12)))] ?_
 by_cases hg6 : (1 : Int) ≤ x.most ∧ x.most ≤ 12
 ·
  refine OI_eq [(1, pt b1), (6, .bool true)] (by first | simp [hg6] | rfl) ?_
  refine On 5 [1, 6, 7] ?_
  refine Oc 3 (.tmp 7) 1 (nt x.deposit) (some 8) hb1 rfl ?_
  refine Ok (kl 118 #[(.tmp 8), (.const (nt 0)), (.const (nt 1073741824))] #[3, 3, 3]) 118 #[nt x.deposit, nt 0, nt 1073741824] (some 9) (r10In_spec x.deposit 0 1073741824 _) ?_
  rintro _ w1 ⟨rfl, rfl⟩
  refine ⟨_, rfl, ?_⟩
  refine Os 9 [(1, pt b1), (11, .bool (decide ((0 : Int) ≤ x.deposit ∧ x.deposit ≤ 1073741824)))] ?_
  by_cases hg10 : (0 : Int) ≤ x.deposit ∧ x.deposit ≤ 1073741824
  ·
   refine OI_eq [(1, pt b1), (11, .bool true)] (by first | simp [hg10] | rfl) ?_
   refine On 10 [1, 11, 12] ?_
   refine Oc 3 (.tmp 12) 16 (nt x.cap) (some 13) hb1 rfl ?_
   refine Ok (kl 118 #[(.tmp 13), (.const (nt 0)), (.const (nt 1073741824))] #[3, 3, 3]) 118 #[nt x.cap, nt 0, nt 1073741824] (some 14) (r10In_spec x.cap 0 1073741824 _) ?_
   rintro _ w1 ⟨rfl, rfl⟩
   refine ⟨_, rfl, ?_⟩
   refine Os 14 [(1, pt b1), (16, .bool (decide ((0 : Int) ≤ x.cap ∧ x.cap ≤ 1073741824)))] ?_
   by_cases hg14 : (0 : Int) ≤ x.cap ∧ x.cap ≤ 1073741824
   ·
    refine OI_eq [(1, pt b1), (16, .bool true)] (by first | simp [hg14] | rfl) ?_
    refine On 15 [1, 16, 17] ?_
    refine Oc 3 (.tmp 17) 2 (nt x.prepare) (some 18) hb1 rfl ?_
    refine Ok (kl 118 #[(.tmp 18), (.const (nt 0)), (.const (nt 1000))] #[3, 3, 3]) 118 #[nt x.prepare, nt 0, nt 1000] (some 19) (r10In_spec x.prepare 0 1000 _) ?_
    rintro _ w1 ⟨rfl, rfl⟩
    refine ⟨_, rfl, ?_⟩
    refine Os 19 [(1, pt b1), (21, .bool (decide ((0 : Int) ≤ x.prepare ∧ x.prepare ≤ 1000)))] ?_
    by_cases hg18 : (0 : Int) ≤ x.prepare ∧ x.prepare ≤ 1000
    ·
     refine OI_eq [(1, pt b1), (21, .bool true)] (by first | simp [hg18] | rfl) ?_
     refine On 20 [1, 21, 22] ?_
     refine Oc 3 (.tmp 22) 4 (nt x.confirm) (some 23) hb1 rfl ?_
     refine Ok (kl 118 #[(.tmp 23), (.const (nt 0)), (.const (nt 1000))] #[3, 3, 3]) 118 #[nt x.confirm, nt 0, nt 1000] (some 24) (r10In_spec x.confirm 0 1000 _) ?_
     rintro _ w1 ⟨rfl, rfl⟩
     refine ⟨_, rfl, ?_⟩
     refine Os 24 [(1, pt b1), (26, .bool (decide ((0 : Int) ≤ x.confirm ∧ x.confirm ≤ 1000)))] ?_
     by_cases hg22 : (0 : Int) ≤ x.confirm ∧ x.confirm ≤ 1000
     ·
      refine OI_eq [(1, pt b1), (26, .bool true)] (by first | simp [hg22] | rfl) ?_
      refine On 25 [1, 26, 27] ?_
      refine Oc 3 (.tmp 27) 5 (nt x.enact) (some 28) hb1 rfl ?_
      refine Ok (kl 118 #[(.tmp 28), (.const (nt 0)), (.const (nt 1000))] #[3, 3, 3]) 118 #[nt x.enact, nt 0, nt 1000] (some 29) (r10In_spec x.enact 0 1000 _) ?_
      rintro _ w1 ⟨rfl, rfl⟩
      refine ⟨_, rfl, ?_⟩
      refine Os 29 [(1, pt b1), (31, .bool (decide ((0 : Int) ≤ x.enact ∧ x.enact ≤ 1000)))] ?_
      by_cases hg26 : (0 : Int) ≤ x.enact ∧ x.enact ≤ 1000
      ·
       refine OI_eq [(1, pt b1), (31, .bool true)] (by first | simp [hg26] | rfl) ?_
       refine On 30 [1, 31, 32] ?_
       refine Oc 3 (.tmp 32) 3 (nt x.decision) (some 33) hb1 rfl ?_
       refine Ok (kl 118 #[(.tmp 33), (.const (nt 1)), (.const (nt 1000))] #[3, 3, 3]) 118 #[nt x.decision, nt 1, nt 1000] (some 34) (r10In_spec x.decision 1 1000 _) ?_
       rintro _ w1 ⟨rfl, rfl⟩
       refine ⟨_, rfl, ?_⟩
       refine Os 34 [(1, pt b1), (36, .bool (decide ((1 : Int) ≤ x.decision ∧ x.decision ≤ 1000)))] ?_
       by_cases hg30 : (1 : Int) ≤ x.decision ∧ x.decision ≤ 1000
       ·
        refine OI_eq [(1, pt b1), (36, .bool true)] (by first | simp [hg30] | rfl) ?_
        refine On 35 [1, 36, 37] ?_
        refine Oa 25 (.tmp 37) 6 (Crv.cells x.app) (some 38) 5 hb1 rfl rfl ?_
        refine Ok (kl 119 #[(.tmp 38)] #[25]) 119 #[.agg (Crv.cells x.app).toArray] (some 39) (r4Is_spec x.app _) ?_
        rintro _ w31 ⟨rfl, hk32⟩
        refine ⟨_, rfl, ?_⟩
        have hsz33 := Keep.size hk32
        replace hb1 := hb1.k0 hk32
        replace hK0 := hK0.tn hk32
        refine Os 39 [(1, pt b1), (41, .bool (decide (okCrv x.app)))] ?_
        by_cases hg34 : okCrv x.app
        ·
         refine OI_eq [(1, pt b1), (41, .bool true)] (by first | simp [hg34] | rfl) ?_
         refine On 40 [1, 41, 42] ?_
         refine Oa 25 (.tmp 42) 11 (Crv.cells x.sup) (some 43) 5 hb1 rfl rfl ?_
         refine Ok (kl 119 #[(.tmp 43)] #[25]) 119 #[.agg (Crv.cells x.sup).toArray] (some 44) (r4Is_spec x.sup _) ?_
         rintro _ w35 ⟨rfl, hk36⟩
         refine ⟨_, rfl, ?_⟩
         have hsz37 := Keep.size hk36
         replace hb1 := hb1.k0 hk36
         replace hK0 := hK0.tn hk36
         refine Os 44 [(1, pt b1), (46, .bool (decide (okCrv x.sup)))] ?_
         by_cases hg38 : okCrv x.sup
         ·
          refine OI_eq [(1, pt b1), (46, .bool true)] (by first | simp [hg38] | rfl) ?_
          refine On 45 [46, 47] ?_
          refine Oc 3 (.tmp 47) 17 (nt x.rank) (some 48) hb1 rfl ?_
          refine Ok (kl 118 #[(.tmp 48), (.const (nt 0)), (.const (nt 2))] #[3, 3, 3]) 118 #[nt x.rank, nt 0, nt 2] (some 49) (r10In_spec x.rank 0 2 _) ?_
          rintro _ w35 ⟨rfl, rfl⟩
          refine ⟨_, rfl, ?_⟩
          refine Ose [(2, .bool (decide ((0 : Int) ≤ x.rank ∧ x.rank ≤ 2)))] ?_
          refine V_ret ?_
          exact X_return (.bool (decide ((0 : Int) ≤ x.rank ∧ x.rank ≤ 2))) rfl ⟨by congr 2; first | (apply Eq.symm; (try simp only [decide_eq_true_eq]); (try simp only [decide_eq_false_iff_not]); unfold okTrk; simp_all <;> omega) | (rw [decide_eq_decide]; unfold okTrk; simp_all <;> omega), hK0⟩
         refine OI_eq [(1, pt b1), (46, .bool false)] (by first | simp [hg38] | rfl) ?_
         refine Ose [(2, .bool false)] ?_
         refine V_ret ?_
         exact X_return (.bool false) rfl ⟨by congr 2; first | (apply Eq.symm; (try simp only [decide_eq_true_eq]); (try simp only [decide_eq_false_iff_not]); unfold okTrk; simp_all <;> omega) | (rw [decide_eq_decide]; unfold okTrk; simp_all <;> omega), hK0⟩
        refine OI_eq [(1, pt b1), (41, .bool false)] (by first | simp [hg34] | rfl) ?_
        refine Ose [(2, .bool false)] ?_
        refine V_ret ?_
        exact X_return (.bool false) rfl ⟨by congr 2; first | (apply Eq.symm; (try simp only [decide_eq_true_eq]); (try simp only [decide_eq_false_iff_not]); unfold okTrk; simp_all <;> omega) | (rw [decide_eq_decide]; unfold okTrk; simp_all <;> omega), hK0⟩
       refine OI_eq [(1, pt b1), (36, .bool false)] (by first | simp [hg30] | rfl) ?_
       refine Ose [(2, .bool false)] ?_
       refine V_ret ?_
       exact X_return (.bool false) rfl ⟨by congr 2; first | (apply Eq.symm; (try simp only [decide_eq_true_eq]); (try simp only [decide_eq_false_iff_not]); unfold okTrk; simp_all <;> omega) | (rw [decide_eq_decide]; unfold okTrk; simp_all <;> omega), hK0⟩
      refine OI_eq [(1, pt b1), (31, .bool false)] (by first | simp [hg26] | rfl) ?_
      refine Ose [(2, .bool false)] ?_
      refine V_ret ?_
      exact X_return (.bool false) rfl ⟨by congr 2; first | (apply Eq.symm; (try simp only [decide_eq_true_eq]); (try simp only [decide_eq_false_iff_not]); unfold okTrk; simp_all <;> omega) | (rw [decide_eq_decide]; unfold okTrk; simp_all <;> omega), hK0⟩
     refine OI_eq [(1, pt b1), (26, .bool false)] (by first | simp [hg22] | rfl) ?_
     refine Ose [(2, .bool false)] ?_
     refine V_ret ?_
     exact X_return (.bool false) rfl ⟨by congr 2; first | (apply Eq.symm; (try simp only [decide_eq_true_eq]); (try simp only [decide_eq_false_iff_not]); unfold okTrk; simp_all <;> omega) | (rw [decide_eq_decide]; unfold okTrk; simp_all <;> omega), hK0⟩
    refine OI_eq [(1, pt b1), (21, .bool false)] (by first | simp [hg18] | rfl) ?_
    refine Ose [(2, .bool false)] ?_
    refine V_ret ?_
    exact X_return (.bool false) rfl ⟨by congr 2; first | (apply Eq.symm; (try simp only [decide_eq_true_eq]); (try simp only [decide_eq_false_iff_not]); unfold okTrk; simp_all <;> omega) | (rw [decide_eq_decide]; unfold okTrk; simp_all <;> omega), hK0⟩
   refine OI_eq [(1, pt b1), (16, .bool false)] (by first | simp [hg14] | rfl) ?_
   refine Ose [(2, .bool false)] ?_
   refine V_ret ?_
   exact X_return (.bool false) rfl ⟨by congr 2; first | (apply Eq.symm; (try simp only [decide_eq_true_eq]); (try simp only [decide_eq_false_iff_not]); unfold okTrk; simp_all <;> omega) | (rw [decide_eq_decide]; unfold okTrk; simp_all <;> omega), hK0⟩
  refine OI_eq [(1, pt b1), (11, .bool false)] (by first | simp [hg10] | rfl) ?_
  refine Ose [(2, .bool false)] ?_
  refine V_ret ?_
  exact X_return (.bool false) rfl ⟨by congr 2; first | (apply Eq.symm; (try simp only [decide_eq_true_eq]); (try simp only [decide_eq_false_iff_not]); unfold okTrk; simp_all <;> omega) | (rw [decide_eq_decide]; unfold okTrk; simp_all <;> omega), hK0⟩
 refine OI_eq [(1, pt b1), (6, .bool false)] (by first | simp [hg6] | rfl) ?_
 refine Ose [(2, .bool false)] ?_
 refine V_ret ?_
 exact X_return (.bool false) rfl ⟨by congr 2; first | (apply Eq.symm; (try simp only [decide_eq_true_eq]); (try simp only [decide_eq_false_iff_not]); unfold okTrk; simp_all <;> omega) | (rw [decide_eq_decide]; unfold okTrk; simp_all <;> omega), hK0⟩
def okTs (ts : List Trk) : Prop := 1 ≤ ts.length ∧ ts.length ≤ 4 ∧ ∀ t ∈ ts, okTrk t
instance (ts : List Trk) : Decidable (okTs ts) := by unfold okTs; infer_instance
set_option maxRecDepth 10000 in
theorem rbad_spec (x : Trk) (w : World) : Calls Tryz.prog 79 #[.agg x.cells.toArray] w fun e w' => e = .returned (.bool (!decide (okTrk x))) ∧ Keep none_ w w' := by
 have hK0 : Keep none_ w w := Keep.refl _ _
 have hzhK0 := Keep.size hK0
 refine enterV Tryz.func79 rfl [.agg (Trk.cells x).toArray] 6 rfl rfl rfl ?_
 refine Vr ?_
 refine OI_box 27 (.tmp 0) (.agg (Trk.cells x).toArray) (Trk.cells x) (some 1) (by kernel_rfl) (by kernel_rfl) rfl ?_
 intro b1 w1 e1 hb1 k1 z1
 have hsz2 := Keep.size k1
 replace hK0 := hK0.tn k1
 have hb1lt := hb1.lt
 refine On 2 [1] ?_
 refine Oer ?_
 refine Oa 27 (.tmp 1) 0 (Trk.cells x) (some 3) 18 hb1 (take_all (Trk.len _)) (Trk.len _) ?_
 refine Ok (kl 80 #[(.tmp 3)] #[27]) 80 #[.agg (Trk.cells x).toArray] (some 4) (trkIs_spec x _) ?_
 rintro _ w3 ⟨rfl, hk4⟩
 refine ⟨_, rfl, ?_⟩
 have hsz5 := Keep.size hk4
 replace hb1 := hb1.k0 hk4
 replace hK0 := hK0.tn hk4
 refine Ose [(2, .bool (!(decide (okTrk x))))] ?_
 refine V_ret ?_
 exact X_return (.bool (!(decide (okTrk x)))) rfl ⟨rfl, hK0⟩
set_option maxRecDepth 10000 in
theorem ixf_spec (A : Option Addr) (cap : Nat) (ts : List Trk) (w : World) (hA : SlT w 18 Trk.cells A cap ts) (hok : ∀ t ∈ ts, okTrk t) (hn4 : ts.length ≤ 4) : Calls Tryz.prog 122 #[.slice A ts.length cap, .func (.func 79) #[] #[]] w fun e w' => e = .returned (nt (-1)) ∧ Keep none_ w w' := by
 have hAlt := SlT.lt hA
 have hK0 : Keep none_ w w := Keep.refl _ _
 have hzhK0 := Keep.size hK0
 refine enterV Tryz.func122 rfl [.slice A ts.length cap, .func (.func 79) #[] #[]] 19 rfl rfl rfl ?_
 refine Vr ?_
 refine On 1 [0, 1] ?_
 refine Oe ?_
 refine V_seq ?_
 refine Vs [(0, .slice A ts.length cap), (1, .func (.func 79) #[] #[]), (7, nt (ts.length : Int)), (8, nt 0)] ?_
 refine V_block ?_
 refine V_pick [(0, .slice A ts.length cap), (1, .func (.func 79) #[] #[]), (7, nt (ts.length : Int)), (8, nt 0)] rfl ?_
 refine V_loop (fun k wI e => ∃ i : Nat, (k + i = ts.length) ∧ Keep none_ w wI ∧ e = [(0, .slice A ts.length cap), (1, .func (.func 79) #[] #[]), (7, nt (ts.length : Int)), (8, nt (i : Int))]) ts.length ⟨0, rfl, Keep.refl _ _, rfl⟩ ?_
 rintro k2 w1 _ ⟨i, hki, hk3, rfl⟩
 have hsz4 := Keep.size hk3
 replace hA := hA.keep0 hk3
 replace hK0 := hK0.tn hk3
 have hzhk3 := Keep.size hk3
 refine Vs [(0, .slice A ts.length cap), (1, .func (.func 79) #[] #[]), (7, nt (ts.length : Int)), (8, nt (i : Int)), (9, .bool (decide ((i : Int) < (ts.length : Int))))] ?_
 refine V_seq ?_
 refine V_if ((i : Int) < (ts.length : Int)) (by kernel_rfl) (fun hc5 => ?_) (fun hc5 => ?_)
 ·
  refine V_skip ?_
  refine X_then ?_
  refine V_seq ?_
  refine V_block ?_
  refine Vr ?_
  refine On 2 [0, 1, 5, 7, 8] ?_
  refine Oer ?_
  refine Os 3 [(0, .slice A ts.length cap), (1, .func (.func 79) #[] #[]), (5, nt (i : Int)), (7, nt (ts.length : Int)), (8, nt (i : Int)), (11, .func (.func 79) #[] #[]), (12, .slice A ts.length cap), (13, nt (i : Int))] ?_
  obtain ⟨b6, o6, L6, T6, rfl, hat6⟩ := SlT.open_ hA (by first | omega | (simp only [List.length_map]; omega) | (simp; done) | (simp; omega))
  have hb6lt := hat6.blk.lt
  have hob7 := hAlt b6 ⟨_, rfl, rfl⟩
  refine Oi (b := b6) (o := o6) (len := ts.length) (cap := cap) (j := i) (some 14) 29 (.tmp 12) (.tmp 13) 27 18 144 .i64 ?_
  obtain ⟨x8, hx9⟩ : ∃ x, ts[i]? = some x := ⟨_, List.getElem?_eq_getElem (by first | omega | (simp only [List.length_map]; omega))⟩
  have hokx : okTrk x8 := hok x8 (List.mem_of_getElem? hx9)
  refine Oa 27 (.tmp 14) (o6 + i * 18) (Trk.cells x8) (some 15) 18 hat6.blk (At.elem' hat6 (es_at hx9)) (At.len hat6 (es_at hx9)) ?_
  refine Ok { callee := (Callee.value (Operand.tmp 11)), args := #[(Operand.tmp 15)], argTypes := #[27] } 79 #[.agg (Trk.cells x8).toArray] (some 16) (rbad_spec x8 _) ?_
  rintro _ w10 ⟨rfl, hk11⟩
  refine ⟨_, rfl, ?_⟩
  have hsz12 := Keep.size hk11
  replace hat6 := hat6.keep hk11 id
  replace hK0 := hK0.tn hk11
  replace hk3 := hk3.tn hk11
  refine Oe ?_
  refine V_pick [(0, sl_ b6 o6 ts.length cap), (1, .func (.func 79) #[] #[]), (5, nt (i : Int)), (7, nt (ts.length : Int)), (8, nt (i : Int)), (16, .bool (!(decide (okTrk x8))))] rfl ?_
  refine V_eq [(0, sl_ b6 o6 ts.length cap), (1, .func (.func 79) #[] #[]), (5, nt (i : Int)), (7, nt (ts.length : Int)), (8, nt (i : Int)), (16, .bool false)] (by rw [decide_eq_true hokx]; rfl) ?_
  refine V_false rfl ?_
  refine V_skip ?_
  refine X_block ?_
  refine X_then ?_
  refine V_region ?_
  have hw14 : IntKind.i64.wrap ((i : Int) + 1) = ((i + 1 : Nat) : Int) := (wrap64_id (by omega) (by omega)).trans (by omega)
  refine Os 1 [(0, sl_ b6 o6 ts.length cap), (1, .func (.func 79) #[] #[]), (7, nt (ts.length : Int)), (18, nt (IntKind.i64.wrap ((i : Int) + 1)))] ?_
  refine Oq (u := nt (IntKind.i64.wrap ((i : Int) + 1))) (v := nt ((i + 1 : Nat) : Int)) 18 (by rw [hw14]) ?_
  refine Os 2 [(0, sl_ b6 o6 ts.length cap), (1, .func (.func 79) #[] #[]), (7, nt (ts.length : Int)), (8, nt ((i + 1 : Nat) : Int))] ?_
  refine OI_end rfl ?_
  exact V_again (k2 - 1) (by omega) [(0, sl_ b6 o6 ts.length cap), (1, .func (.func 79) #[] #[]), (7, nt (ts.length : Int)), (8, nt ((i + 1 : Nat) : Int))] rfl ⟨i + 1, by omega, hk3, rfl⟩
 refine V_exit ?_
 refine X_exit_then ?_
 refine X_exit_then ?_
 refine X_exit_here ?_
 refine X_then ?_
 refine Vs [(4, nt (-1))] ?_
 refine V_ret ?_
 exact X_return (nt (-1)) rfl ⟨rfl, hK0⟩
set_option maxRecDepth 10000 in
theorem ctf_spec (A : Option Addr) (cap : Nat) (ts : List Trk) (w : World) (hA : SlT w 18 Trk.cells A cap ts) (hok : ∀ t ∈ ts, okTrk t) (hn4 : ts.length ≤ 4) : Calls Tryz.prog 81 #[.slice A ts.length cap, .func (.func 79) #[] #[]] w (rk_ w (.bool false)) := by
 have hAlt := SlT.lt hA
 have hK0 : Keep none_ w w := Keep.refl _ _
 have hzhK0 := Keep.size hK0
 refine enterV Tryz.func81 rfl [.slice A ts.length cap, .func (.func 79) #[] #[]] 9 rfl rfl rfl ?_
 refine Vr ?_
 refine On 1 [0, 1] ?_
 refine Oer ?_
 refine On 2 [5, 6] ?_
 refine Ok (kl 122 #[(.tmp 5), (.tmp 6)] #[29, 150]) 122 #[.slice A ts.length cap, .func (.func 79) #[] #[]] (some 7) (ixf_spec A cap ts _ hA hok hn4) ?_
 rintro _ w1 ⟨rfl, hk2⟩
 refine ⟨_, rfl, ?_⟩
 have hsz3 := Keep.size hk2
 replace hA := hA.keep0 hk2
 replace hK0 := hK0.tn hk2
 refine Ose [(4, .bool false)] ?_
 refine V_ret ?_
 exact X_return (.bool false) rfl ⟨rfl, hK0⟩
set_option maxRecDepth 10000 in
theorem tclone_nil (w : World) : Calls Tryz.prog 82 #[.slice none 0 0] w fun e w' => e = .returned (.slice none 0 0) ∧ w' = w := by
 refine enterV Tryz.func82 rfl [.slice none 0 0] 8 rfl rfl rfl ?_
 refine Vr ?_
 refine On 1 [0] ?_
 refine Oe ?_
 refine V_seq ?_
 refine Vs [(0, .slice none 0 0), (4, .bool true)] ?_
 refine V_true rfl ?_
 refine Vs [(2, .slice none 0 0)] ?_
 refine V_ret ?_
 refine X_ret_then ?_
 exact X_return _ rfl ⟨rfl, rfl⟩
set_option maxRecDepth 10000 in
theorem tclone_at (b o cap : Nat) (L : List Value) (T : TypeId) (xs : List Trk) (w : World) (h : At w b o L T 18 cap (xs.map Trk.cells)) (hn : xs.length ≤ 1000000) : Calls Tryz.prog 82 #[sl_ b o xs.length cap] w fun e w' => ∃ A' cap', e = .returned (.slice A' xs.length cap') ∧ SlT w' 18 Trk.cells A' cap' xs ∧ Keep none_ w w' ∧ (∀ k, inA A' k → w.heap.size ≤ k) := by
 have hblt := h.blk.lt
 have hK0 : Keep none_ w w := Keep.refl _ _
 have hzhK0 := Keep.size hK0
 refine enterV Tryz.func82 rfl [sl_ b o xs.length cap] 8 rfl rfl rfl ?_
 refine Vr ?_
 refine On 1 [0] ?_
 refine Oe ?_
 refine V_seq ?_
 refine Vs [(0, sl_ b o xs.length cap), (4, .bool false)] ?_
 refine V_false rfl ?_
 refine V_skip ?_
 refine X_then ?_
 refine Vr ?_
 refine OI_slit (E := 27) (zv := .agg #[nt 0, nt 0, nt 0, nt 0, nt 0, nt 0, nt 0, nt 0, nt 0, nt 0, nt 0, nt 0, nt 0, nt 0, nt 0, nt 0, nt 0, nt 0]) (sz := 18) (by_ := 144) 29 0 #[] [] [] (some 5) (by kernel_rfl) (by kernel_rfl) (by kernel_rfl) (by omega) rfl (by omega) (by intro v hv; cases hv) (by kernel_rfl) rfl ?_
 intro b1 w1 e1 hb1 k1 z1
 have hsz2 := Keep.size k1
 replace h := h.k0 k1
 replace hK0 := hK0.tn k1
 have hb1lt := hb1.lt
 refine Os 2 [(5, sl_ b1 0 0 0), (6, sl_ b o xs.length cap)] ?_
 refine OI_append (t := 29) (at2 := 29) (E := 27) (E2 := 27) (sz := 18) (by_ := 144) (zv := .agg #[nt 0, nt 0, nt 0, nt 0, nt 0, nt 0, nt 0, nt 0, nt 0, nt 0, nt 0, nt 0, nt 0, nt 0, nt 0, nt 0, nt 0, nt 0]) (m := 0) (k := xs.length) (.tmp 5) (.tmp 6) (sl_ b1 0 0 0) (sl_ b o xs.length cap) (some 7) (by kernel_rfl) (by kernel_rfl) (by kernel_rfl) (by kernel_rfl) (by kernel_rfl) (by kernel_rfl) (by kernel_rfl) (SlT.slr (slt_blk (f := Trk.cells) (xs := []) hb1 Trk.len rfl)) (SlT.slr (At.slt h)) (one_flat Trk.one) (by omega) (by omega) (by omega) (by omega) ?_
 intro v w9 hap
 obtain ⟨A9, cap9, rfl, h9, hin⟩ := SlT.of (xs := xs) hap.holds (by omega) (by simp) (fun x _ => Trk.len x)
 have hk9 : Keep (only b1) w1 w9 := hap.keep
 have hown : ∀ k, inA A9 k → w.heap.size ≤ k := fun k hk => by rcases hap.own k (hin k hk) with h | h; (have h : k = b1 := h; omega); omega
 have hsz3 := Keep.size hk9
 replace h := h.k1 hk9
 replace hK0 := Keep.fr hK0 hk9
 refine Op_ [(7, .slice A9 (0 + xs.length) cap9)] ?_
 refine Oq (u := .slice A9 (0 + xs.length) cap9) (v := .slice A9 xs.length cap9) 7 (by rw [Nat.zero_add]) ?_
 refine Ose [(2, .slice A9 xs.length cap9)] ?_
 refine V_ret ?_
 exact X_return _ rfl ⟨A9, cap9, rfl, h9, hK0, hown⟩
theorem tclone_spec (A : Option Addr) (cap : Nat) (xs : List Trk) (w : World) (hA : SlT w 18 Trk.cells A cap xs) (hn : xs.length ≤ 1000000) : Calls Tryz.prog 82 #[.slice A xs.length cap] w fun e w' => ∃ A' cap', e = .returned (.slice A' xs.length cap') ∧ SlT w' 18 Trk.cells A' cap' xs ∧ Keep none_ w w' ∧ (∀ k, inA A' k → w.heap.size ≤ k) := by
  rcases Nat.eq_zero_or_pos xs.length with h0 | h0
  · obtain rfl := List.length_eq_zero_iff.1 h0
    rcases hA with ⟨rfl, rfl, _⟩ | ⟨b, o, L, T, rfl, h1, h2, h3, h4, h5⟩
    · exact (tclone_nil w).mono (by rintro e w' ⟨rfl, rfl⟩; exact ⟨none, 0, rfl, SlT.nil _ _ _, Keep.refl _ _, fun k hk => (inA_none hk).elim⟩)
    · exact tclone_at b o cap L T [] w ⟨h1, h2, h3, h4, h5⟩ hn
  · obtain ⟨b, o, L, T, rfl, h⟩ := hA.open_ h0
    exact tclone_at b o cap L T xs w h hn
set_option maxRecDepth 10000 in
theorem rnw_spec (A : Option Addr) (cap : Nat) (ts : List Trk) (w : World) (hA : SlT w 18 Trk.cells A cap ts) (hok : okTs ts) : Calls Tryz.prog 35 #[.slice A ts.length cap] w fun e w' => ∃ r g H, e = .returned (.tuple #[pt r, nt 0]) ∧ Rfr H w' r g ts [] ∧ Keep none_ w w' ∧ (∀ q, H q → w.heap.size ≤ q) := by
 have hAlt := SlT.lt hA
 have hok1 := hok.1
 have hok2 := hok.2.1
 have hK0 : Keep none_ w w := Keep.refl _ _
 have hzhK0 := Keep.size hK0
 refine enterV Tryz.func35 rfl [.slice A ts.length cap] 23 rfl rfl rfl ?_
 refine Vr ?_
 refine On 2 [0] ?_
 refine Oer ?_
 refine On 1 [0, 4] ?_
 refine Oe ?_
 refine V_seq ?_
 refine Vr ?_
 refine Os 4 [(0, .slice A ts.length cap), (4, .func (.func 79) #[] #[]), (8, .bool (decide ((ts.length : Int) = 0)))] ?_
 refine Oq (u := .bool (decide ((ts.length : Int) = 0))) (v := .bool false) 8 (by rw [decide_eq_false (by omega : ¬ ((ts.length : Int) = 0))]) ?_
 refine Os 9 [(0, .slice A ts.length cap), (4, .func (.func 79) #[] #[]), (13, .bool (decide ((ts.length : Int) > 4)))] ?_
 refine Oq (u := .bool (decide ((ts.length : Int) > 4))) (v := .bool false) 13 (by rw [decide_eq_false (by omega : ¬ ((ts.length : Int) > 4))]) ?_
 refine On 11 [0, 13, 14, 15] ?_
 refine Ok (kl 81 #[(.tmp 14), (.tmp 15)] #[29, 150]) 81 #[.slice A ts.length cap, .func (.func 79) #[] #[]] (some 16) (ctf_spec A cap ts _ hA hok.2.2 (by omega)) ?_
 rintro _ w3 ⟨rfl, hk4⟩
 refine ⟨_, rfl, ?_⟩
 have hsz5 := Keep.size hk4
 replace hA := hA.keep0 hk4
 replace hK0 := hK0.tn hk4
 refine Ose [(0, .slice A ts.length cap), (17, .bool false)] ?_
 refine V_false rfl ?_
 refine V_skip ?_
 refine X_then ?_
 refine Vr ?_
 refine On 1 [18] ?_
 refine Ok (kl 82 #[(.tmp 18)] #[29]) 82 #[.slice A ts.length cap] (some 19) (tclone_spec A cap ts _ hA (by omega)) ?_
 rintro _ w6 ⟨A8, cap8, rfl, hA8, hk7, ow8⟩
 refine ⟨_, rfl, ?_⟩
 have hsz9 := Keep.size hk7
 replace hA := hA.keep0 hk7
 replace hK0 := hK0.tn hk7
 have lt8 := SlT.lt hA8
 refine Ok (kl 83 #[] #[]) 83 #[] (some 20) (GQ.new_grd _) ?_
 rintro _ w12 ⟨g14, F15, rfl, ho16, hk13, hge17⟩
 refine ⟨_, rfl, ?_⟩
 have hsz18 := Keep.size hk13
 replace hA := hA.keep0 hk13
 replace hA8 := hA8.keep0 hk13
 replace hK0 := hK0.tn hk13
 have own19 : ∀ q, F15 q → w6.heap.size ≤ q := fun q hq => by have h1 := hge17 q hq; omega
 have lt20 := GQ.Grd.lt ho16
 have dis21 : ∀ q, F15 q → ¬ inA A q := fun q h1 h2 => by have h3 := hge17 q h1; have h4 := hAlt q h2; omega
 have dis22 : ∀ q, F15 q → ¬ inA A8 q := fun q h1 h2 => by have h3 := hge17 q h1; have h4 := lt8 q h2; omega
 have hg14lt : g14 < w12.heap.size := GQ.Grd.lt ho16 _ (GQ.Grd.at_ ho16)
 have hg14ge := hge17 _ (GQ.Grd.at_ ho16)
 refine On 4 [21] ?_
 refine OI_box 97 (.tmp 21) (.agg #[.slice A8 ts.length cap8, pt g14]) [.slice A8 ts.length cap8, pt g14] (some 22) (by kernel_rfl) (by kernel_rfl) (by kernel_rfl) ?_
 intro b23 w23 e23 hb23 k23 z23
 have hsz24 := Keep.size k23
 replace hA := hA.keep0 k23
 replace hA8 := hA8.keep0 k23
 replace hK0 := hK0.tn k23
 replace ho16 := GQ.Grd.keep ho16 k23 nk
 have hb23lt := hb23.lt
 refine Ose [(2, pt b23), (3, nt 0)] ?_
 refine V_ret ?_
 exact X_return _ rfl ⟨b23, g14, (fun q => F15 q ∨ inA A8 q ∨ q = b23), rfl, ⟨⟨by omega, hok.2.2, by simp, fun x hx => by cases hx⟩, fun q hq => by rcases hq with h | h | h; (have h1 := lt20 q h; omega); (have h1 := lt8 q h; omega); omega, F15, A8, cap8, ⟨hb23, hA8, ho16, (fun q h1 h2 => dis22 q h2 h1), (fun q h => by have h1 := ow8 q h; have h2 := lt8 q h; omega), (fun q h => by have h1 := lt20 q h; omega)⟩, .inr (.inr rfl), fun q h => .inl h, fun q h => .inr (.inl h)⟩, hK0, fun q hq => by rcases hq with h | h | h; (have h1 := own19 q h; omega); (have h1 := ow8 q h; omega); omega⟩
end Go.Al

namespace Go.Al
open Go Go.RowKit Go.Proofs
set_option maxRecDepth 10000 in
theorem rnew6_weak (A : Option Addr) (cap : Nat) (fs : List Int) (w : World) (hA0 : ArgT w 1 intc A cap fs) (hn : fs.length ≤ 100000) : Calls Tryz.prog 39 #[.slice A fs.length cap] w fun e w' => ∃ pv n, e = .returned (.tuple #[.pointer pv, nt n]) ∧ Keep none_ w w' := by
 have hA := hA0
 have hK0 : Keep none_ w w := Keep.refl _ _
 have hzhK0 := Keep.size hK0
 refine enterV Tryz.func39 rfl [.slice A fs.length cap] 51 rfl rfl rfl ?_
 refine Vr ?_
 refine On 2 [0] ?_
 refine Oe ?_
 refine V_seq ?_
 refine Vs [(0, .slice A fs.length cap), (9, .bool (decide ((fs.length : Int) > 10)))] ?_
 refine V_if ((fs.length : Int) > 10) (by kernel_rfl) (fun hc1 => ?_) (fun hc1 => ?_)
 ·
  refine Vs [(2, .pointer none), (3, nt 1)] ?_
  refine V_ret ?_
  refine X_ret_then ?_
  exact X_return (.tuple #[.pointer none, nt 1]) rfl ⟨_, _, rfl, hK0⟩
 refine V_skip ?_
 refine X_then ?_
 refine Vr ?_
 refine OI_make (E := 171) (sz := 3) (by_ := 40) (m := 10) (kd := .i64) (zv := .agg #[nt 0, nt 0, .slice none 0 0]) 166 (.const (Value.int IntKind.i64 10)) (.const (Value.int IntKind.i64 10)) ((List.replicate 10 [nt 0, nt 0, .slice none 0 0]).flatten) (some 10) (by kernel_rfl) (by kernel_rfl) (by kernel_rfl) (by kernel_rfl) (by kernel_rfl) (by decide) (by decide) (by kernel_rfl) ?_
 intro b2 w2 e2 hb2 k2 z2
 have hsz3 := Keep.size k2
 replace hA := ArgT.keep0 hA k2
 replace hK0 := hK0.tn k2
 have hb2lt := hb2.lt
 refine On 2 [0, 11] ?_
 refine OI_box 168 (.tmp 11) (.agg #[sl_ b2 0 10 10]) [sl_ b2 0 10 10] (some 12) (by kernel_rfl) (by kernel_rfl) (by kernel_rfl) ?_
 intro b4 w4 e4 hb4 k4 z4
 have hsz5 := Keep.size k4
 replace hb2 := hb2.k0 k4
 replace hA := ArgT.keep0 hA k4
 replace hK0 := hK0.tn k4
 have hb4lt := hb4.lt
 refine On 4 [0, 4] ?_
 refine Oer ?_
 refine On 1 [0, 4, 5] ?_
 refine Oe ?_
 refine V_seq ?_
 refine Vs [(0, .slice A fs.length cap), (4, pt b4), (5, nt 0), (6, nt 0)] ?_
 refine V_block ?_
 refine V_pick [(0, .slice A fs.length cap), (4, pt b4), (5, nt 0), (6, nt 0)] rfl ?_
 refine V_loop (fun k wI e => ∃ i : Nat, ∃ s5 : Int, ∃ Lx : List Value, (k + i = fs.length) ∧ (Blk wI b2 Lx 171) ∧ (Lx.length = 30) ∧ Keep (only b2) w4 wI ∧ e = [(0, .slice A fs.length cap), (4, pt b4), (5, nt s5), (6, nt (i : Int))]) fs.length ⟨0, 0, (List.replicate 10 [nt 0, nt 0, .slice none 0 0]).flatten, by omega, hb2, by decide, Keep.refl _ _, rfl⟩ ?_
 rintro k7 w6 _ ⟨i, s5, Lx, hki, hB, hLx, hk8, rfl⟩
 have hsz9 := Keep.size hk8
 replace hb4 := hb4.k1 hk8
 replace hA := ArgT.keep hA hk8 hA0 (fun k hk hs => by have hs : k = b2 := hs; omega)
 replace hK0 := Keep.fr hK0 hk8
 have hzhk8 := Keep.size hk8
 have hb2lt := hB.lt
 refine V_seq ?_
 refine Vs [(0, .slice A fs.length cap), (4, pt b4), (5, nt s5), (6, nt (i : Int)), (16, .bool (decide ((i : Int) < (fs.length : Int))))] ?_
 refine V_if ((i : Int) < (fs.length : Int)) (by kernel_rfl) (fun hc10 => ?_) (fun hc10 => ?_)
 ·
  refine V_skip ?_
  refine X_then ?_
  refine V_seq ?_
  refine V_block ?_
  refine V_seq ?_
  refine Vr ?_
  refine On 2 [0, 4, 5, 6, 19, 20] ?_
  obtain ⟨b11, o11, L11, rfl, hat11⟩ := ArgT.open_ hA (by first | omega | (simp only [List.length_map]; omega) | (simp; done) | (simp; omega))
  have hb11lt0 := ArgT.lt hA0 (by first | omega | (simp only [List.length_map]; omega) | (simp; done) | (simp; omega))
  have hb11lt := hat11.blk.lt
  refine Oi (b := b11) (o := o11) (len := fs.length) (cap := cap) (j := i) (some 21) 72 (.tmp 19) (.tmp 20) 3 1 8 .i64 ?_
  obtain ⟨x12, hx13⟩ : ∃ x, fs[i]? = some x := ⟨_, List.getElem?_eq_getElem (by first | omega | (simp only [List.length_map]; omega))⟩
  refine OI_cellR 3 (.tmp 21) (o11 + i * 1) (nt x12) (some 22) (by kernel_rfl) (by kernel_rfl) hat11.blk (m := 1) (by kernel_rfl) (AtR.cell0 hat11 (es_at hx13) rfl) ?_
  refine Os 6 [(0, sl_ b11 o11 fs.length cap), (4, pt b4), (5, nt s5), (6, nt (i : Int)), (24, .bool (decide (x12 < 0)))] ?_
  by_cases hg14 : x12 < 0
  ·
   refine OI_eq [(0, sl_ b11 o11 fs.length cap), (4, pt b4), (5, nt s5), (6, nt (i : Int)), (24, .bool true)] (by first | simp [hg14] | rfl) ?_
   refine Ose [(0, sl_ b11 o11 fs.length cap), (4, pt b4), (5, nt s5), (6, nt (i : Int)), (25, undef), (26, undef), (27, undef), (28, undef), (29, undef), (30, .bool true)] ?_
   refine V_true rfl ?_
   refine Vs [(2, .pointer none), (3, nt 1)] ?_
   refine V_ret ?_
   refine X_ret_then ?_
   refine X_ret_block ?_
   refine X_ret_then ?_
   refine X_ret_then ?_
   refine X_ret_block ?_
   refine X_ret_then ?_
   exact X_return (.tuple #[.pointer none, nt 1]) rfl ⟨_, _, rfl, hK0⟩
  refine OI_eq [(0, sl_ b11 o11 fs.length cap), (4, pt b4), (5, nt s5), (6, nt (i : Int)), (24, .bool false)] (by first | simp [hg14] | rfl) ?_
  refine On 8 [0, 4, 5, 6, 24, 25, 26] ?_
  refine Oi (b := b11) (o := o11) (len := fs.length) (cap := cap) (j := i) (some 27) 72 (.tmp 25) (.tmp 26) 3 1 8 .i64 ?_
  refine OI_cellR 3 (.tmp 27) (o11 + i * 1) (nt x12) (some 28) (by kernel_rfl) (by kernel_rfl) hat11.blk (m := 1) (by kernel_rfl) (AtR.cell0 hat11 (es_at hx13) rfl) ?_
  refine Ose [(0, sl_ b11 o11 fs.length cap), (4, pt b4), (5, nt s5), (6, nt (i : Int)), (25, sl_ b11 o11 fs.length cap), (26, nt (i : Int)), (27, .pointer (some ⟨b11, o11 + i * 1, none⟩)), (28, nt x12), (29, .bool (decide (x12 > 1073741824))), (30, .bool (decide (x12 > 1073741824)))] ?_
  refine V_if (x12 > 1073741824) (by kernel_rfl) (fun hc15 => ?_) (fun hc15 => ?_)
  ·
   refine Vs [(2, .pointer none), (3, nt 1)] ?_
   refine V_ret ?_
   refine X_ret_then ?_
   refine X_ret_block ?_
   refine X_ret_then ?_
   refine X_ret_then ?_
   refine X_ret_block ?_
   refine X_ret_then ?_
   exact X_return (.tuple #[.pointer none, nt 1]) rfl ⟨_, _, rfl, hK0⟩
  refine V_skip ?_
  refine X_then ?_
  refine V_seq ?_
  refine Vd (acts [11]) (only b2) [[0, 1, 2, 3, 4, 5, 6, 7, 8, 9, 10, 11]] ?_
  intro w17 hk16 he18 L hL19
  have hsz20 := Keep.size hk16
  replace hB := hB.k0 hk16
  replace hb4 := hb4.k0 hk16
  replace hat11 := hat11.keep hk16 id
  replace hK0 := hK0.tn hk16
  replace hk8 := hk8.tn hk16
  have qhB := hB
  have qhb4 := hb4
  have qhat11 := hat11
  have K21 : Keep (only b2) w17 w17 := Keep.refl _ _
  obtain rfl := List.mem_singleton.1 hL19
  refine Gn [3, 4, 5, 6, 7, 8, 9, 10, 11] [0, 4, 5, 6, 25, 26, 27, 28, 29, 33] ?_
  refine Gc 166 (.tmp 33) 0 (sl_ b2 0 10 10) (some 34) qhb4 (by show ¬ (_ = _); omega) rfl ?_
  refine Gs [7, 8, 9, 10, 11] [(0, sl_ b11 o11 fs.length cap), (4, pt b4), (5, nt s5), (6, nt (i : Int)), (25, sl_ b11 o11 fs.length cap), (26, nt (i : Int)), (27, .pointer (some ⟨b11, o11 + i * 1, none⟩)), (28, nt x12), (29, .bool (decide (x12 > 1073741824))), (34, sl_ b2 0 10 10), (35, nt (i : Int)), (36, sl_ b11 o11 fs.length cap), (37, nt (i : Int))] ?_
  refine GI_pure (some 38) (.indexAddr 72 (.tmp 36) (.tmp 37)) (by kernel_rfl) (by kernel_rfl) (pure_idxN (b := b11) (o := o11) (len := fs.length) (cap := cap) (kd := .i64) (j := i) (E := 3) (sz := 1) (by_ := 8) (by kernel_rfl) (by kernel_rfl) (by kernel_rfl) (by omega)) ?_
  refine GI_cellR 3 (.tmp 38) (o11 + i * 1) (nt x12) (some 39) (by kernel_rfl) (by kernel_rfl) (by kernel_rfl) qhat11.blk (by show ¬ (_ = _); omega) (m := 1) (by kernel_rfl) (AtR.cell0 qhat11 (es_at hx13) rfl) ?_
  refine GI_pure (some 40) (.indexAddr 166 (.tmp 34) (.tmp 35)) (by kernel_rfl) (by kernel_rfl) (pure_idxN (b := b2) (o := 0) (len := 10) (cap := 10) (kd := .i64) (j := i) (E := 171) (sz := 3) (by_ := 40) (by kernel_rfl) (by kernel_rfl) (by kernel_rfl) (by omega)) ?_
  refine Gn [11] [0, 4, 5, 6, 25, 26, 27, 28, 29, 39, 41] ?_
  refine GI_final 11 (by kernel_rfl) (by kernel_rfl) ?_
  refine OI_set (m := 1) (kd := false) 3 (.tmp 41) (.tmp 39) (0 + i * 3) (nt x12) [nt x12] none (by kernel_rfl) (by kernel_rfl) (by kernel_rfl) hB (by kernel_rfl) (by kernel_rfl) (by kernel_rfl) (by rw [hLx]; show 0 + i * 3 + 1 ≤ 30; omega) (by simp [Value.oneCell']) ?_
  intro w22 hb2_25 hk23 hz24
  replace hb2_25 : Blk w22 b2 (over Lx (0 + i * 3) [nt x12]) 171 := hb2_25
  have hsz26 := Keep.size hk23
  replace hb4 := hb4.k1 hk23
  replace hat11 := hat11.keep hk23 (by show ¬ (_ = _); omega)
  replace hK0 := Keep.fr hK0 hk23
  replace hk8 := Keep.fr hk8 hk23
  refine Oe ?_
  refine V_region ?_
  refine On 3 [0, 4, 6, 25, 26, 27, 28, 29, 42, 43, 44] ?_
  refine Oi (b := b11) (o := o11) (len := fs.length) (cap := cap) (j := i) (some 45) 72 (.tmp 43) (.tmp 44) 3 1 8 .i64 ?_
  refine OI_cellR 3 (.tmp 45) (o11 + i * 1) (nt x12) (some 46) (by kernel_rfl) (by kernel_rfl) hat11.blk (m := 1) (by kernel_rfl) (AtR.cell0 hat11 (es_at hx13) rfl) ?_
  refine Os 7 [(0, sl_ b11 o11 fs.length cap), (4, pt b4), (5, nt (IntKind.i64.wrap (s5 + x12))), (6, nt (i : Int)), (25, sl_ b11 o11 fs.length cap), (26, nt (i : Int)), (27, .pointer (some ⟨b11, o11 + i * 1, none⟩)), (28, nt x12), (29, .bool (decide (x12 > 1073741824)))] ?_
  refine OI_end rfl ?_
  refine X_block ?_
  refine X_then ?_
  refine V_region ?_
  have hw27 : IntKind.i64.wrap ((i : Int) + 1) = ((i + 1 : Nat) : Int) := (wrap64_id (by omega) (by omega)).trans (by omega)
  refine Os 2 [(0, sl_ b11 o11 fs.length cap), (4, pt b4), (5, nt (IntKind.i64.wrap (s5 + x12))), (18, nt (IntKind.i64.wrap ((i : Int) + 1))), (25, sl_ b11 o11 fs.length cap), (26, nt (i : Int)), (27, .pointer (some ⟨b11, o11 + i * 1, none⟩)), (28, nt x12), (29, .bool (decide (x12 > 1073741824)))] ?_
  refine Oq (u := nt (IntKind.i64.wrap ((i : Int) + 1))) (v := nt ((i + 1 : Nat) : Int)) 18 (by rw [hw27]) ?_
  refine Os 3 [(0, sl_ b11 o11 fs.length cap), (4, pt b4), (5, nt (IntKind.i64.wrap (s5 + x12))), (6, nt ((i + 1 : Nat) : Int)), (25, sl_ b11 o11 fs.length cap), (26, nt (i : Int)), (27, .pointer (some ⟨b11, o11 + i * 1, none⟩)), (28, nt x12), (29, .bool (decide (x12 > 1073741824)))] ?_
  refine OI_end rfl ?_
  exact V_again (k7 - 1) (by omega) [(0, sl_ b11 o11 fs.length cap), (4, pt b4), (5, nt (IntKind.i64.wrap (s5 + x12))), (6, nt ((i + 1 : Nat) : Int))] rfl ⟨i + 1, IntKind.i64.wrap (s5 + x12), (over Lx (0 + i * 3) [nt x12]), by omega, hb2_25, by rw [over_length (by rw [hLx]; show 0 + i * 3 + 1 ≤ 30; omega)]; exact hLx, hk8, rfl⟩
 refine V_exit ?_
 refine X_exit_then ?_
 refine X_exit_then ?_
 refine X_exit_here ?_
 refine X_then ?_
 refine V_seq ?_
 refine Vs [(4, pt b4), (49, .bool (decide (s5 > 1073741824)))] ?_
 refine V_if (s5 > 1073741824) (by kernel_rfl) (fun hc28 => ?_) (fun hc28 => ?_)
 ·
  refine Vs [(2, .pointer none), (3, nt 1)] ?_
  refine V_ret ?_
  refine X_ret_then ?_
  exact X_return (.tuple #[.pointer none, nt 1]) rfl ⟨_, _, rfl, hK0⟩
 refine V_skip ?_
 refine X_then ?_
 refine Vs [(2, pt b4), (3, nt 0)] ?_
 refine V_ret ?_
 exact X_return (.tuple #[pt b4, nt 0]) rfl ⟨_, _, rfl, hK0⟩
set_option maxRecDepth 10000 in
theorem rnew11_weak (w : World) : Calls Tryz.prog 40 #[] w fun e w' => ∃ pv, e = .returned (.pointer pv) ∧ Keep none_ w w' := by
 have hK0 : Keep none_ w w := Keep.refl _ _
 have hzhK0 := Keep.size hK0
 refine enterV Tryz.func40 rfl [] 5 rfl rfl rfl ?_
 refine Vs [] ?_
 refine V_seq ?_
 refine V_draws (acts [0, 1, 3]) none_ [[0, 1, 2, 3, 4], [1, 0, 2, 3, 4]] (by kernel_rfl) (by repeat first | exact sure_body (by rintro _ _ ⟨_, h, _⟩; exact ⟨_, h⟩) | refine sure_then ?_ | refine sure_block ?_ | refine sure_join ?_) (by kernel_rfl) ?_
 intro w2 hk1 he3 L hL4
 have hsz5 := Keep.size hk1
 replace hK0 := hK0.tn hk1
 have K6 : Keep none_ w2 w2 := Keep.refl _ _
 simp only [List.mem_cons, List.not_mem_nil, or_false] at hL4
 rcases hL4 with rfl | rfl
 ·
  refine GI_make (E := 222) (sz := 7) (by_ := 56) (m := 12) (kd := .i64) (zv := .agg #[.bool false, nt 0, nt 0, nt 0, nt 0, nt 0, nt 0]) 172 (.const (Value.int IntKind.i64 12)) (.const (Value.int IntKind.i64 12)) ((List.replicate 12 [.bool false, nt 0, nt 0, nt 0, nt 0, nt 0, nt 0]).flatten) (some 1) (by kernel_rfl) (by kernel_rfl) K6 (by kernel_rfl) (by kernel_rfl) (by kernel_rfl) (by kernel_rfl) (by decide) (by decide) (by kernel_rfl) ?_
  intro b7 w7 e7 hb7 k7 z7 K8
  have hsz9 := Keep.size k7
  replace hK0 := hK0.tn k7
  have hb7lt := hb7.lt
  refine GI_make (E := 228) (sz := 9) (by_ := 88) (m := 40) (kd := .i64) (zv := .agg #[.slice none 0 0, .bool false, nt 0, nt 0, nt 0, nt 0, nt 0, nt 0, nt 0]) 173 (.const (Value.int IntKind.i64 40)) (.const (Value.int IntKind.i64 40)) ((List.replicate 40 [.slice none 0 0, .bool false, nt 0, nt 0, nt 0, nt 0, nt 0, nt 0, nt 0]).flatten) (some 2) (by kernel_rfl) (by kernel_rfl) K8 (by kernel_rfl) (by kernel_rfl) (by kernel_rfl) (by kernel_rfl) (by decide) (by decide) (by kernel_rfl) ?_
  intro b10 w10 e10 hb10 k10 z10 K11
  have hsz12 := Keep.size k10
  replace hb7 := hb7.k0 k10
  replace hK0 := hK0.tn k10
  have hb10lt := hb10.lt
  refine Gn [3, 4] [3] ?_
  refine GI_box 175 (.tmp 3) (.agg #[sl_ b7 0 12 12, sl_ b10 0 40 40]) [sl_ b7 0 12 12, sl_ b10 0 40 40] (some 4) (by kernel_rfl) (by kernel_rfl) K11 (by kernel_rfl) (by kernel_rfl) ?_
  intro b13 w13 e13 hb13 k13 z13 K14
  have hsz15 := Keep.size k13
  replace hb7 := hb7.k0 k13
  replace hb10 := hb10.k0 k13
  replace hK0 := hK0.tn k13
  have hb13lt := hb13.lt
  refine Gs [] [(0, pt b13)] ?_
  refine GI_end ?_
  refine X_then ?_
  refine V_ret ?_
  exact X_return _ rfl ⟨_, rfl, hK0⟩
 ·
  refine GI_make (E := 228) (sz := 9) (by_ := 88) (m := 40) (kd := .i64) (zv := .agg #[.slice none 0 0, .bool false, nt 0, nt 0, nt 0, nt 0, nt 0, nt 0, nt 0]) 173 (.const (Value.int IntKind.i64 40)) (.const (Value.int IntKind.i64 40)) ((List.replicate 40 [.slice none 0 0, .bool false, nt 0, nt 0, nt 0, nt 0, nt 0, nt 0, nt 0]).flatten) (some 2) (by kernel_rfl) (by kernel_rfl) K6 (by kernel_rfl) (by kernel_rfl) (by kernel_rfl) (by kernel_rfl) (by decide) (by decide) (by kernel_rfl) ?_
  intro b16 w16 e16 hb16 k16 z16 K17
  have hsz18 := Keep.size k16
  replace hK0 := hK0.tn k16
  have hb16lt := hb16.lt
  refine GI_make (E := 222) (sz := 7) (by_ := 56) (m := 12) (kd := .i64) (zv := .agg #[.bool false, nt 0, nt 0, nt 0, nt 0, nt 0, nt 0]) 172 (.const (Value.int IntKind.i64 12)) (.const (Value.int IntKind.i64 12)) ((List.replicate 12 [.bool false, nt 0, nt 0, nt 0, nt 0, nt 0, nt 0]).flatten) (some 1) (by kernel_rfl) (by kernel_rfl) K17 (by kernel_rfl) (by kernel_rfl) (by kernel_rfl) (by kernel_rfl) (by decide) (by decide) (by kernel_rfl) ?_
  intro b19 w19 e19 hb19 k19 z19 K20
  have hsz21 := Keep.size k19
  replace hb16 := hb16.k0 k19
  replace hK0 := hK0.tn k19
  have hb19lt := hb19.lt
  refine Gn [3, 4] [3] ?_
  refine GI_box 175 (.tmp 3) (.agg #[sl_ b19 0 12 12, sl_ b16 0 40 40]) [sl_ b19 0 12 12, sl_ b16 0 40 40] (some 4) (by kernel_rfl) (by kernel_rfl) K20 (by kernel_rfl) (by kernel_rfl) ?_
  intro b22 w22 e22 hb22 k22 z22 K23
  have hsz24 := Keep.size k22
  replace hb16 := hb16.k0 k22
  replace hb19 := hb19.k0 k22
  replace hK0 := hK0.tn k22
  have hb22lt := hb22.lt
  refine Gs [] [(0, pt b22)] ?_
  refine GI_end ?_
  refine X_then ?_
  refine V_ret ?_
  exact X_return _ rfl ⟨_, rfl, hK0⟩
set_option maxRecDepth 10000 in
theorem rnew12_weak (A : Option Addr) (cap : Nat) (ts : List Trk) (w : World) (hA : SlT w 18 Trk.cells A cap ts) (hok : okTs ts) : Calls Tryz.prog 34 #[.slice A ts.length cap] w fun e w' => ∃ pv, e = .returned (.tuple #[.pointer pv, nt 0]) ∧ Keep none_ w w' := by
 have hAlt := SlT.lt hA
 have hok1 := hok.1
 have hok2 := hok.2.1
 have hK0 : Keep none_ w w := Keep.refl _ _
 have hzhK0 := Keep.size hK0
 refine enterV Tryz.func34 rfl [.slice A ts.length cap] 30 rfl rfl rfl ?_
 refine Vr ?_
 refine On 2 [0] ?_
 refine Oe ?_
 refine V_seq ?_
 refine Vr ?_
 refine Os 4 [(0, .slice A ts.length cap), (8, .bool (decide ((ts.length : Int) < 1)))] ?_
 refine Oq (u := .bool (decide ((ts.length : Int) < 1))) (v := .bool false) 8 (by rw [decide_eq_false (by omega : ¬ ((ts.length : Int) < 1))]) ?_
 refine Ose [(0, .slice A ts.length cap), (12, .bool (decide ((ts.length : Int) > 4)))] ?_
 refine V_pick [(0, .slice A ts.length cap), (12, .bool (decide ((ts.length : Int) > 4)))] rfl ?_
 refine V_eq [(0, .slice A ts.length cap), (12, .bool false)] (by rw [decide_eq_false (by omega : ¬ ((ts.length : Int) > 4))]) ?_
 refine V_false rfl ?_
 refine V_skip ?_
 refine X_then ?_
 refine V_seq ?_
 refine Vs [(0, .slice A ts.length cap), (4, nt 0)] ?_
 refine V_block ?_
 refine V_pick [(0, .slice A ts.length cap), (4, nt 0)] rfl ?_
 refine V_loop (fun k wI e => ∃ i : Nat, (k + i = ts.length) ∧ Keep none_ w wI ∧ e = [(0, .slice A ts.length cap), (4, nt (i : Int))]) ts.length ⟨0, rfl, Keep.refl _ _, rfl⟩ ?_
 rintro k4 w3 _ ⟨i, hki, hk5, rfl⟩
 have hsz6 := Keep.size hk5
 replace hA := hA.keep0 hk5
 replace hK0 := hK0.tn hk5
 have hzhk5 := Keep.size hk5
 refine V_seq ?_
 refine Vs [(0, .slice A ts.length cap), (4, nt (i : Int)), (16, .bool (decide ((i : Int) < (ts.length : Int))))] ?_
 refine V_if ((i : Int) < (ts.length : Int)) (by kernel_rfl) (fun hc7 => ?_) (fun hc7 => ?_)
 ·
  refine V_skip ?_
  refine X_then ?_
  refine V_seq ?_
  refine V_block ?_
  refine Vr ?_
  refine On 2 [0, 4, 19, 20] ?_
  obtain ⟨b8, o8, L8, T8, rfl, hat8⟩ := SlT.open_ hA (by first | omega | (simp only [List.length_map]; omega) | (simp; done) | (simp; omega))
  have hb8lt := hat8.blk.lt
  have hob9 := hAlt b8 ⟨_, rfl, rfl⟩
  refine Oi (b := b8) (o := o8) (len := ts.length) (cap := cap) (j := i) (some 21) 29 (.tmp 19) (.tmp 20) 27 18 144 .i64 ?_
  obtain ⟨x10, hx11⟩ : ∃ x, ts[i]? = some x := ⟨_, List.getElem?_eq_getElem (by first | omega | (simp only [List.length_map]; omega))⟩
  have hokx : okTrk x10 := hok.2.2 x10 (List.mem_of_getElem? hx11)
  refine Oa 27 (.tmp 21) (o8 + i * 18) (Trk.cells x10) (some 22) 18 hat8.blk (At.elem' hat8 (es_at hx11)) (At.len hat8 (es_at hx11)) ?_
  refine Ok (kl 78 #[(.tmp 22)] #[27]) 78 #[.agg (Trk.cells x10).toArray] (some 23) (r10Is_spec x10 _) ?_
  rintro _ w12 ⟨rfl, hk13⟩
  refine ⟨_, rfl, ?_⟩
  have hsz14 := Keep.size hk13
  replace hat8 := hat8.keep hk13 id
  replace hK0 := hK0.tn hk13
  replace hk5 := hk5.tn hk13
  refine Ose [(0, sl_ b8 o8 ts.length cap), (4, nt (i : Int)), (24, .bool (!(decide (okTrk x10))))] ?_
  refine V_pick [(0, sl_ b8 o8 ts.length cap), (4, nt (i : Int)), (24, .bool (!(decide (okTrk x10))))] rfl ?_
  refine V_eq [(0, sl_ b8 o8 ts.length cap), (4, nt (i : Int)), (24, .bool false)] (by rw [decide_eq_true hokx]; rfl) ?_
  refine V_false rfl ?_
  refine V_skip ?_
  refine X_block ?_
  refine X_then ?_
  refine V_region ?_
  have hw16 : IntKind.i64.wrap ((i : Int) + 1) = ((i + 1 : Nat) : Int) := (wrap64_id (by omega) (by omega)).trans (by omega)
  refine Os 2 [(0, sl_ b8 o8 ts.length cap), (18, nt (IntKind.i64.wrap ((i : Int) + 1)))] ?_
  refine Oq (u := nt (IntKind.i64.wrap ((i : Int) + 1))) (v := nt ((i + 1 : Nat) : Int)) 18 (by rw [hw16]) ?_
  refine Os 3 [(0, sl_ b8 o8 ts.length cap), (4, nt ((i + 1 : Nat) : Int))] ?_
  refine OI_end rfl ?_
  exact V_again (k4 - 1) (by omega) [(0, sl_ b8 o8 ts.length cap), (4, nt ((i + 1 : Nat) : Int))] rfl ⟨i + 1, by omega, hk5, rfl⟩
 refine V_exit ?_
 refine X_exit_then ?_
 refine X_exit_then ?_
 refine X_exit_here ?_
 refine X_then ?_
 refine Vr ?_
 refine OI_slit (E := 27) (zv := .agg #[nt 0, nt 0, nt 0, nt 0, nt 0, nt 0, nt 0, nt 0, nt 0, nt 0, nt 0, nt 0, nt 0, nt 0, nt 0, nt 0, nt 0, nt 0]) (sz := 18) (by_ := 144) 29 0 #[] [] [] (some 25) (by kernel_rfl) (by kernel_rfl) (by kernel_rfl) (by omega) rfl (by omega) (by intro v hv; cases hv) (by kernel_rfl) rfl ?_
 intro b17 w17 e17 hb17 k17 z17
 have hsz18 := Keep.size k17
 replace hA := hA.keep0 k17
 replace hK0 := hK0.tn k17
 have hb17lt := hb17.lt
 refine Os 2 [(25, sl_ b17 0 0 0), (26, .slice A ts.length cap)] ?_
 have hl19 : ts.length = ts.length := rfl
 have hy19 := SlT.slr hA
 refine OI_append (t := 29) (at2 := 29) (E := 27) (E2 := 27) (sz := 18) (by_ := 144) (zv := .agg #[nt 0, nt 0, nt 0, nt 0, nt 0, nt 0, nt 0, nt 0, nt 0, nt 0, nt 0, nt 0, nt 0, nt 0, nt 0, nt 0, nt 0, nt 0]) (m := ([] : List Trk).length) (k := ts.length) (.tmp 25) (.tmp 26) (sl_ b17 0 0 0) (.slice A ts.length cap) (some 27) (by kernel_rfl) (by kernel_rfl) (by kernel_rfl) (by kernel_rfl) (by kernel_rfl) (by kernel_rfl) (by kernel_rfl) (SlT.slr (slt_blk (xs := ([] : List Trk)) (f := Trk.cells) (sz := 18) hb17 Trk.len rfl)) hy19 (fun u hu => by obtain ⟨z, _, hz⟩ := List.mem_flatMap.1 hu; exact Trk.one z u hz) (by first | omega | ((repeat first | rw [List.length_append] | rw [List.length_cons] | rw [List.length_nil] | rw [List.length_take] | rw [List.length_drop]) <;> omega)) (by omega) (by first | omega | ((repeat first | rw [List.length_append] | rw [List.length_cons] | rw [List.length_nil] | rw [List.length_take] | rw [List.length_drop]) <;> omega)) (by omega) ?_
 intro vv9 w19 hap
 obtain ⟨A19, cap19, rfl, hA19, hk19, own19x⟩ := app_many (f := Trk.cells) (xs := ([] : List Trk)) (ys := ts) (A := (some ⟨b17, 0, none⟩)) (cap := 0) hap hl19 Trk.len
 replace hk19 : Keep (only b17) w17 w19 := hk19.mono (fun i _ h => inA_some h)
 have own19 : ∀ q, inA A19 q → w.heap.size ≤ q := fun q hq => by rcases own19x q hq with h | h; (have h9 := inA_some h; show w.heap.size ≤ q; omega); (show w.heap.size ≤ q; omega)
 rw [List.nil_append] at hA19
 have hsz20 := Keep.size hk19
 replace hA := hA.keep hk19 (fun q hq hs => by have hs : q = b17 := hs; have g1 := hAlt q hq; omega)
 replace hK0 := Keep.fr hK0 hk19
 have lt19 := SlT.lt hA19
 have hcap19 := SlT.cap_le hA19
 refine On 4 [28] ?_
 refine OI_box 152 (.tmp 28) (.agg #[.slice A19 ts.length cap19, .slice none 0 0]) [.slice A19 ts.length cap19, .slice none 0 0] (some 29) (by kernel_rfl) (by kernel_rfl) (by kernel_rfl) ?_
 intro b21 w21 e21 hb21 k21 z21
 have hsz22 := Keep.size k21
 replace hA := hA.keep0 k21
 replace hA19 := hA19.keep0 k21
 replace hK0 := hK0.tn k21
 have hb21lt := hb21.lt
 refine Ose [(2, pt b21), (3, nt 0)] ?_
 refine V_ret ?_
 exact X_return _ rfl ⟨_, rfl, hK0⟩
end Go.Al
