/-
  Put together out of 1 texts: The laws of voting: what is asked for is locked: the walk.
-/
import Derived.Test.YtglgnmoglbbkmaaGreatVotingHoldsB8
set_option maxRecDepth 10000
namespace Go.Al
open Go Go.RowKit Go.Proofs
variable {cs : List Ci} {now : Int} {s : VS} {xs : List Acc}
theorem hv_vt {a t : Int} {k : Nat} {c : Int × Vt} (h : HInv s xs cs now) (hc : (vrow s a t)[k]? = some c) : capI c.2 ≤ lockedL cs a := Int.le_trans (h.vt a t c (List.mem_of_getElem? hc)) (lkv_le h.lk a t)
theorem hv_dn (h : HInv s xs cs now) (a t : Int) : dN (s.rc a t) ≤ lockedL cs a := by
  unfold dN
  cases hd : (s.rc a t).d with
  | none => exact lockedL_nn h.lk a
  | some D => exact Int.le_trans (h.dl a t D hd) (lkv_le h.lk a t)
theorem hv_pr (h : HInv s xs cs now) (a t : Int) : (s.rc a t).n ≤ lockedL cs a := Int.le_trans (h.pr a t) (lkv_le h.lk a t)
theorem Pl.di {B : Nat → Prop} {w : World} {b : Nat} (h : Pl B w b s xs cs now) : DInv s ∧ Inv xs := by
  obtain ⟨_, _, F, G, H, I, v, l, x, y, hp⟩ := h
  exact ⟨hp.hy.dinv, Led.inv hp.hl⟩
set_option maxHeartbeats 4000000 in
theorem walk_VotingHolds (A L : Option Addr) (cap capl : Nat) (fs : List Int) (ac : List Av) (w : World) (hA0 : ArgT w 1 intc A cap fs) (hL0 : ArgT w 14 Av.cells L capl ac) (hcap : fs.length ≤ 9223372036854775807) (hcapl : ac.length ≤ 9223372036854775807) : Calls Tryz.prog 10 #[.slice A fs.length cap, .slice L ac.length capl] w (rk_ w (.bool true)) := by
 have hA := hA0
 have hL := hL0
 have hK0 := Keep.refl none_ w
 refine eV ?_
 refine Vr <| On 1 [0, 1] <| Oe <| V_seq <| Vr <| On 4 [0, 1, 22] ?_
 by_cases hg1 : (ac.length : Int) > 10000
 ·
  exact Dt 22 hg1 <| Oen [0, 1, 26] <| Vo <| Vn [4] <| Rt <| Xr (.bool true) ⟨rfl, hK0⟩
 refine Df 22 hg1 <| Oen [0, 1, 26] <| Vi ((fs.length : Int) > 1000) (fun hc2 => ?_) (fun hc2 => ?_)
 ·
  exact Vn [4] <| Rt <| Xr (.bool true) ⟨rfl, hK0⟩
 refine Vsk <| Vr <| On 1 [1, 27] <| Kg (begin_pl A cap fs _ hA (by omega)) ?_
 rintro _ w5 ⟨b7, B8, rfl, ho9, hk6, hge10⟩
 refine ⟨_, rfl, ?_⟩
 have hsz11 := Keep.size hk6
 replace hL := ArgT.keep0 hL hk6
 replace hK0 := hK0.tn hk6
 have own12 : ∀ q, B8 q → w.heap.size ≤ q := fun q hq => by have h1 := hge10 q hq; omega
 have lt13 := Pl.lt ho9
 have hb7lt : b7 < w5.heap.size := Pl.lt ho9 _ (Pl.at_ ho9)
 refine On 3 [1, 5] <| Oe <| V_seq <| Vn [1, 5, 30] <| Vf <| Vsk <| V_seq <| Vn [1, 5, 6] <| V_block ?_
 have hvi := Pl.di ho9
 refine Vp [(1, .slice L ac.length capl), (5, pt b7), (6, nt 0)] <| V_loop (fun k wI e => ∃ i : Nat, ∃ s : VS, ∃ xs : List Acc, ∃ cs : List Ci, ∃ now : Int, ∃ F14 : Nat → Prop, (k + i = min ac.length 80) ∧ (i ≤ 80) ∧ (cs.length ≤ i) ∧ (HInv s xs cs now) ∧ (Pl F14 wI b7 s xs cs now) ∧ (∀ q, F14 q → w.heap.size ≤ q) ∧ (∀ q, F14 q → B8 q ∨ w5.heap.size ≤ q) ∧ Keep B8 w5 wI ∧ e = [(1, .slice L ac.length capl), (5, pt b7), (6, nt (i : Int))]) (min ac.length 80) ⟨0, VS.zero, (newX (msk24 (fs.take 10)) 10), [], 0, B8, by omega, by omega, by simp, hv_new hvi.2, ho9, (fun q hq => by have h1 := own12 q hq; have h2 := lt13 q hq; omega), fun q h => .inl h, Keep.refl _ _, rfl⟩ ?_
 rintro k19 w18 _ ⟨i, s, xs, cs, now, F14, hki, hi9, hcl, hh, ho15, own16, rel17, hk20, rfl⟩
 have hsz21 := Keep.size hk20
 replace hL := ArgT.keep hL hk20 hL0 (fun k hk hs => by have h1 := own12 k hs; have h2 := lt13 k hs; omega)
 replace hK0 := Keep.fresh hK0 hk20 (by intro i hi hs; have h1 := own12 i hs; have h2 := lt13 i hs; omega)
 have hzhk20 := Keep.size hk20
 have lt22 := Pl.lt ho15
 have hb7lt : b7 < w18.heap.size := Pl.lt ho15 _ (Pl.at_ ho15)
 have hvi := Pl.di ho15
 refine V_seq <| Vr <| On 5 [1, 5, 6, 35] ?_
 by_cases hg23 : (i : Int) < (ac.length : Int)
 ·
  refine Dt 35 hg23 <| Oen [1, 5, 6, 36, 37, 38] <| Vi ((i : Int) < 80) (fun hc24 => ?_) (fun hc24 => ?_)
  ·
   refine Vsk <| V_seq <| V_block <| Vr <| On 3 [1, 5, 6, 36, 37, 41, 42, 43] ?_
   obtain ⟨b25, o25, L25, rfl, hat25⟩ := ArgT.open_ hL (by first | omega | (simp only [List.length_map]; omega) | (simp; done) | (simp; omega))
   have hb25lt0 := ArgT.lt hL0 (by first | omega | (simp only [List.length_map]; omega) | (simp; done) | (simp; omega))
   have hb25lt := hat25.blk.lt
   refine Oi (b := b25) (o := o25) (len := ac.length) (cap := capl) (j := i) (some 44) 70 (.tmp 42) (.tmp 43) 60 14 112 .i64 ?_
   obtain ⟨x26, hx27⟩ := exAt (xs := ac) (i := i)
   refine OI_aggR 60 (.tmp 44) (o25 + i * 14) (Av.cells x26) (some 45) (by kernel_rfl) (by kernel_rfl) hat25.blk (m := 14) (by kernel_rfl) (AtR.elem' hat25 _ _ (es_at hx27)) (AtR.len hat25 (es_at hx27)) <| Kg (act_pl F14 b7 s xs cs now x26 _ ho15 (by omega)) ?_
   rintro _ w32 ⟨rfl, ⟨F34, ho35, hfr36⟩, hk33⟩
   refine ⟨_, rfl, ?_⟩
   have hsz37 := Keep.size hk33
   replace hk20 := frr hk20 hk33 rel17
   have own39 : ∀ q, F34 q → w.heap.size ≤ q := fun q hq => by rcases hfr36 q hq with h | h; (have h1 := own16 q h; have h2 := lt22 q h; omega); omega
   have lt38 := Pl.lt ho35
   have rel40 : ∀ q, F34 q → B8 q ∨ w5.heap.size ≤ q := fun q hq => by rcases hfr36 q hq with h | h; exact rel17 q h; exact .inr (by omega)
   obtain ⟨s1, xs1, cs1, now1, ho1, hh1, hcl1⟩ : ∃ s1 xs1 cs1 now1, Pl F34 w32 b7 s1 xs1 cs1 now1 ∧ HInv s1 xs1 cs1 now1 ∧ cs1.length ≤ i + 1 := ⟨_, _, _, _, ho35, hv_act hh hvi.1 hvi.2 x26, Nat.le_trans (actC_len _ _ _ _ _) (by omega)⟩
   have hBw : w.heap.size ≤ b7 := by have h1 := own39 _ (Pl.at_ ho1); omega
   have hrb41 : B8 b7 ∨ w5.heap.size ≤ b7 := rel40 _ (Pl.at_ ho1)
   obtain ⟨_, hBb, F, G, H, I, v, l, x, y, hpl⟩ := ho1
   have hb := hpl.blk
   have hb7lt := hb.lt
   have hv := hpl.hv
   have hoF : ∀ q, F q → w.heap.size ≤ q ∧ q ≠ b7 := fun q hq => by have h1 := own39 q (hpl.inF q hq).1; have h2 := (hpl.inF q hq).2; omega
   have ltF := VotT.lt hv
   have hvlt := ltF _ (VotT.at_ hv)
   have hvb := hoF _ (VotT.at_ hv)
   have hrF42 : ∀ q, F q → B8 q ∨ w5.heap.size ≤ q := fun q hq => rel40 q (hpl.inF q hq).1
   have hl := hpl.hl
   have hoG : ∀ q, G q → w.heap.size ≤ q ∧ q ≠ b7 := fun q hq => by have h1 := own39 q (hpl.inG q hq).1; have h2 := (hpl.inG q hq).2; omega
   have ltG := Led.lt hl
   have hllt := ltG _ (Led.at_ hl)
   have hlb := hoG _ (Led.at_ hl)
   have hrG43 : ∀ q, G q → B8 q ∨ w5.heap.size ≤ q := fun q hq => rel40 q (hpl.inG q hq).1
   have hx := hpl.hx
   have hoH : ∀ q, H q → w.heap.size ≤ q ∧ q ≠ b7 := fun q hq => by have h1 := own39 q (hpl.inH q hq).1; have h2 := (hpl.inH q hq).2; omega
   have ltH := DLd.lt hx
   have hxlt := ltH _ (DLd.at_ hx)
   have hxb := hoH _ (DLd.at_ hx)
   have hrH44 : ∀ q, H q → B8 q ∨ w5.heap.size ≤ q := fun q hq => rel40 q (hpl.inH q hq).1
   have hy := hpl.hy
   have hoI : ∀ q, I q → w.heap.size ≤ q ∧ q ≠ b7 := fun q hq => by have h1 := own39 q (hpl.inI q hq).1; have h2 := (hpl.inI q hq).2; omega
   have ltI := DVt.lt hy
   have hylt := ltI _ (DVt.at_ hy)
   have hyb := hoI _ (DVt.at_ hy)
   have hrI45 : ∀ q, I q → B8 q ∨ w5.heap.size ≤ q := fun q hq => rel40 q (hpl.inI q hq).1
   refine Oer <| Oen [1, 5, 6, 7, 36, 37] <| V_block <| Vp [(1, sl_ b25 o25 ac.length capl), (5, pt b7), (6, nt (i : Int)), (7, nt 0), (36, nt (i : Int)), (37, .bool (decide ((i : Int) < 80)))] <| V_loop (fun k wI e => ∃ a : Nat, ∃ F46 : Nat → Prop, (k + a = 10) ∧ (VotT F46 wI v s1) ∧ (∀ q, F46 q → w.heap.size ≤ q ∧ q ≠ b7) ∧ (∀ q, F46 q → F q ∨ w32.heap.size ≤ q) ∧ (∀ q, F46 q → ¬ G q) ∧ (∀ q, F46 q → ¬ H q) ∧ (∀ q, F46 q → ¬ I q) ∧ Keep F w32 wI ∧ e = [(1, sl_ b25 o25 ac.length capl), (5, pt b7), (6, nt (i : Int)), (7, nt (a : Int)), (36, nt (i : Int)), (37, .bool (decide ((i : Int) < 80)))]) 10 ⟨0, F, by omega, hv, (fun q hq => by have h1 := hoF q hq; have h2 := ltF q hq; omega), fun q h => .inl h, hpl.fg, hpl.fh, hpl.fi, Keep.refl _ _, rfl⟩ ?_
   rintro k54 w53 _ ⟨a, F46, hka, ho47, own48, rel49, dis50, dis51, dis52, hk55, rfl⟩
   have hsz56 := Keep.size hk55
   replace hb := hb.keep hk55 (fun hs => by have h1 := hoF _ hs; have h2 := ltF _ hs; omega)
   replace hk20 := frr hk20 hk55 hrF42
   replace hl := hl.keep hk55 (fun q hq hs => hpl.fg q hs hq)
   replace hx := DLd.keep hx hk55 (fun q hq hs => hpl.fh q hs hq)
   replace hy := DVt.keep hy hk55 (fun q hq hs => hpl.fi q hs hq)
   have hzhk55 := Keep.size hk55
   have lt57 := VotT.lt ho47
   have rel58 : ∀ q, F46 q → B8 q ∨ w5.heap.size ≤ q := fun q hq => by rcases rel49 q hq with h | h; exact hrF42 q h; exact .inr (by omega)
   have hvlt : v < w53.heap.size := VotT.lt ho47 _ (VotT.at_ ho47)
   refine V_seq <| Vn [1, 5, 6, 7, 36, 37, 48] <| Vi ((a : Int) < 10) (fun hc59 => ?_) (fun hc59 => ?_)
   ·
    refine Vsk <| V_seq <| V_block <| Vr <| On 1 [1, 5, 6, 7, 8, 36, 37] <| Oe <| V_seq <| Vn [1, 5, 6, 7, 8, 9, 36, 37] <| V_block <| Vp [(1, sl_ b25 o25 ac.length capl), (5, pt b7), (6, nt (i : Int)), (7, nt (a : Int)), (8, nt 0), (9, nt 0), (36, nt (i : Int)), (37, .bool (decide ((i : Int) < 80)))] <| V_loop (fun k wI e => ∃ t : Nat, ∃ du : Int, ∃ F60 : Nat → Prop, (k + t = 4) ∧ (du ≤ lockedL cs1 (a : Int)) ∧ (VotT F60 wI v s1) ∧ (∀ q, F60 q → w.heap.size ≤ q ∧ q ≠ b7) ∧ (∀ q, F60 q → F46 q ∨ w53.heap.size ≤ q) ∧ (∀ q, F60 q → ¬ G q) ∧ (∀ q, F60 q → ¬ H q) ∧ (∀ q, F60 q → ¬ I q) ∧ Keep F46 w53 wI ∧ e = [(1, sl_ b25 o25 ac.length capl), (5, pt b7), (6, nt (i : Int)), (7, nt (a : Int)), (8, nt du), (9, nt (t : Int)), (36, nt (i : Int)), (37, .bool (decide ((i : Int) < 80)))]) 4 ⟨0, 0, F46, by omega, (lockedL_nn hh1.lk _), ho47, (fun q hq => by have h1 := own48 q hq; have h2 := lt57 q hq; omega), fun q h => .inl h, dis50, dis51, dis52, Keep.refl _ _, rfl⟩ ?_
    rintro k68 w67 _ ⟨t, du, F60, hkt, hdu, ho61, own62, rel63, dis64, dis65, dis66, hk69, rfl⟩
    have hsz70 := Keep.size hk69
    replace hb := hb.keep hk69 (fun hs => by have h1 := own48 _ hs; have h2 := lt57 _ hs; omega)
    replace hl := hl.keep hk69 (fun q hq hs => dis50 q hs hq)
    replace hk55 := frr hk55 hk69 rel49
    have hzhk69 := Keep.size hk69
    have lt71 := VotT.lt ho61
    have rel72 : ∀ q, F60 q → F q ∨ w32.heap.size ≤ q := fun q hq => by rcases rel63 q hq with h | h; exact rel49 q h; exact .inr (by omega)
    have rel73 : ∀ q, F60 q → B8 q ∨ w5.heap.size ≤ q := fun q hq => by rcases rel63 q hq with h | h; exact rel58 q h; exact .inr (by omega)
    have hvlt : v < w67.heap.size := VotT.lt ho61 _ (VotT.at_ ho61)
    refine V_seq <| Vn [1, 5, 6, 7, 8, 9, 36, 37, 52] <| Vi ((t : Int) < 4) (fun hc74 => ?_) (fun hc74 => ?_)
    ·
     refine Vsk <| V_seq <| V_block <| Vr <| On 3 [1, 5, 6, 7, 8, 9, 36, 37, 58] <| Lr 1 (pt v) hb <| On 6 [1, 5, 6, 7, 8, 9, 36, 37, 59, 60, 61] <| Kg (casts_spec F60 v s1 (a : Int) (t : Int) _ ho61) ?_
     rintro _ w77 ⟨K79, capK79, rfl, hAK79, hk78, owK79⟩
     refine ⟨_, rfl, ?_⟩
     have hsz80 := Keep.size hk78
     replace hk69 := hk69.tn hk78
     replace ho61 := ho61.keep hk78 nk
     have ltK79 := SlT.lt hAK79
     have owbK79 := owK79
     refine On 12 [1, 5, 6, 7, 8, 9, 10, 11, 36, 37] <| Oe <| V_seq <| Vn [1, 5, 6, 7, 8, 9, 10, 36, 37, 66] <| Vf <| Vsk <| V_seq <| Vn [1, 5, 6, 7, 8, 9, 10, 12, 36, 37] <| V_block ?_
     have hvl9 := rowL12 ho61 (a : Int) (t : Int)
     refine Vp [(1, sl_ b25 o25 ac.length capl), (5, pt b7), (6, nt (i : Int)), (7, nt (a : Int)), (8, nt du), (9, nt (t : Int)), (10, .slice K79 ((vrow s1 (a : Int) (t : Int)).length) capK79), (12, nt 0), (36, nt (i : Int)), (37, .bool (decide ((i : Int) < 80)))] <| V_loop (fun k wI e => ∃ j : Nat, ∃ dk : Int, (k + j = (vrow s1 (a : Int) (t : Int)).length) ∧ (dk ≤ lockedL cs1 (a : Int)) ∧ Keep none_ w77 wI ∧ e = [(1, sl_ b25 o25 ac.length capl), (5, pt b7), (6, nt (i : Int)), (7, nt (a : Int)), (8, nt dk), (9, nt (t : Int)), (10, .slice K79 ((vrow s1 (a : Int) (t : Int)).length) capK79), (12, nt (j : Int)), (36, nt (i : Int)), (37, .bool (decide ((i : Int) < 80)))]) ((vrow s1 (a : Int) (t : Int)).length) ⟨0, du, by omega, hdu, Keep.refl _ _, rfl⟩ ?_
     rintro k82 w81 _ ⟨j, dk, hkj, hdk, hk83, rfl⟩
     have hsz84 := Keep.size hk83
     replace hb := hb.k0 (hk78.tr hk83)
     replace hAK79 := hAK79.keep0 hk83
     replace hk69 := hk69.tn hk83
     replace ho61 := ho61.keep hk83 nk
     have hzhk83 := Keep.size hk83
     refine V_seq <| Vn [1, 5, 6, 7, 8, 9, 10, 12, 36, 37, 70] <| Vi ((j : Int) < (((vrow s1 (a : Int) (t : Int)).length : Nat) : Int)) (fun hc85 => ?_) (fun hc85 => ?_)
     ·
      refine Vsk <| V_seq <| V_block <| V_region <| On 3 [1, 5, 6, 7, 9, 10, 12, 36, 37, 73, 74, 75] ?_
      obtain ⟨b86, o86, L86, T86, rfl, hat86⟩ := SlT.opn hAK79
      have hb86lt := hat86.blk.lt
      have hob87 := owK79 b86 ⟨_, rfl, rfl⟩
      have hob88 := ltK79 b86 ⟨_, rfl, rfl⟩
      refine Oi (b := b86) (o := o86) (len := (vrow s1 (a : Int) (t : Int)).length) (cap := capK79) (j := j) (some 76) 39 (.tmp 74) (.tmp 75) 46 7 56 .i64 <| On 5 [1, 5, 6, 7, 9, 10, 12, 36, 37, 73, 77] ?_
      obtain ⟨x89, hx90⟩ := exAt (xs := (vrow s1 (a : Int) (t : Int))) (i := j)
      refine La (o86 + j * 7 + 1) (Vt.cells x89.2) 6 hat86.blk (At.sub hat86 (es_at hx90) (by decide) rfl) (Vt.len _) <| Kk (rCapital_spec x89.2 _) fun w93 hk94 _ => ?_
      replace hk83 := hk83.tn hk94
      refine On 9 [1, 5, 6, 7, 8, 9, 10, 12, 36, 37] <| OI_end rfl <| X_block <| X_then <| V_region ?_
      have hw96 : IntKind.i64.wrap ((j : Int) + 1) = ((j + 1 : Nat) : Int) := wrp
      refine On 2 [1, 5, 6, 7, 8, 9, 10, 36, 37, 72] <| Oq (u := nt (IntKind.i64.wrap ((j : Int) + 1))) (v := nt ((j + 1 : Nat) : Int)) 72 (by rw [hw96]) <| Os 3 [(1, sl_ b25 o25 ac.length capl), (5, pt b7), (6, nt (i : Int)), (7, nt (a : Int)), (8, nt (imax dk (capI x89.2))), (9, nt (t : Int)), (10, sl_ b86 o86 ((vrow s1 (a : Int) (t : Int)).length) capK79), (12, nt ((j + 1 : Nat) : Int)), (36, nt (i : Int)), (37, .bool (decide ((i : Int) < 80)))] <| OI_end rfl ?_
      exact V_again (k82 - 1) (by omega) [(1, sl_ b25 o25 ac.length capl), (5, pt b7), (6, nt (i : Int)), (7, nt (a : Int)), (8, nt (imax dk (capI x89.2))), (9, nt (t : Int)), (10, sl_ b86 o86 ((vrow s1 (a : Int) (t : Int)).length) capK79), (12, nt ((j + 1 : Nat) : Int)), (36, nt (i : Int)), (37, .bool (decide ((i : Int) < 80)))] rfl ⟨j + 1, imax dk (capI x89.2), by omega, ((imax_le _ _ _).2 ⟨hdk, (hv_vt hh1 hx90)⟩), hk83, rfl⟩
     refine V_exit <| X_exit_then <| X_exit_then <| X_exit_here <| X_then <| Vr <| On 3 [1, 5, 6, 7, 8, 9, 36, 37, 84] <| Lr 1 (pt v) hb <| On 6 [1, 5, 6, 7, 8, 9, 36, 37, 85, 86, 87] <| Kg (deleg_all F60 v s1 (a : Int) (t : Int) _ ho61) ?_
     rintro _ w99 ⟨rfl, ⟨F101, ho102, hfr103⟩, hk100⟩
     refine ⟨_, rfl, ?_⟩
     have hsz104 := Keep.size hk100
     replace hb := hb.keep hk100 (fun hs => by have h1 := own62 _ hs; have h2 := lt71 _ hs; omega)
     replace hk69 := frr hk69 hk100 rel63
     have own106 : ∀ q, F101 q → w.heap.size ≤ q ∧ q ≠ b7 := fun q hq => by rcases hfr103 q hq with h | h; (have h1 := own62 q h; have h2 := lt71 q h; omega); omega
     have lt105 := VotT.lt ho102
     have rel107 : ∀ q, F101 q → F46 q ∨ w53.heap.size ≤ q := fun q hq => by rcases hfr103 q hq with h | h; exact rel63 q h; exact .inr (by omega)
     have rel108 : ∀ q, F101 q → F q ∨ w32.heap.size ≤ q := fun q hq => by rcases hfr103 q hq with h | h; exact rel72 q h; exact .inr (by omega)
     have rel109 : ∀ q, F101 q → B8 q ∨ w5.heap.size ≤ q := fun q hq => by rcases hfr103 q hq with h | h; exact rel73 q h; exact .inr (by omega)
     have dis110 : ∀ q, F101 q → ¬ G q := fun q h1 h2 => by rcases hfr103 q h1 with h | h; exact dis64 q h h2; (have h4 := ltG q h2; omega)
     have dis111 : ∀ q, F101 q → ¬ H q := fun q h1 h2 => by rcases hfr103 q h1 with h | h; exact dis65 q h h2; (have h4 := ltH q h2; omega)
     have dis112 : ∀ q, F101 q → ¬ I q := fun q h1 h2 => by rcases hfr103 q h1 with h | h; exact dis66 q h h2; (have h4 := ltI q h2; omega)
     refine On 16 [1, 5, 6, 7, 8, 9, 15, 36, 37] <| Oer <| On 3 [1, 5, 6, 7, 8, 9, 15, 36, 37, 96] <| Lr 1 (pt v) hb <| On 6 [1, 5, 6, 7, 8, 9, 15, 36, 37, 97, 98, 99] <| Kg (prior_specT F101 v s1 (a : Int) (t : Int) _ ho102) ?_
     rintro _ w117 ⟨rfl, ⟨F119, ho120, hfr121⟩, hk118⟩
     refine ⟨_, rfl, ?_⟩
     have hsz122 := Keep.size hk118
     replace hb := hb.keep hk118 (fun hs => by have h1 := own106 _ hs; have h2 := lt105 _ hs; omega)
     replace hk69 := frr hk69 hk118 rel107
     have own124 : ∀ q, F119 q → w.heap.size ≤ q ∧ q ≠ b7 := fun q hq => by rcases hfr121 q hq with h | h; (have h1 := own106 q h; have h2 := lt105 q h; omega); omega
     have lt123 := VotT.lt ho120
     have rel125 : ∀ q, F119 q → F46 q ∨ w53.heap.size ≤ q := fun q hq => by rcases hfr121 q hq with h | h; exact rel107 q h; exact .inr (by omega)
     have rel126 : ∀ q, F119 q → F q ∨ w32.heap.size ≤ q := fun q hq => by rcases hfr121 q hq with h | h; exact rel108 q h; exact .inr (by omega)
     have rel127 : ∀ q, F119 q → B8 q ∨ w5.heap.size ≤ q := fun q hq => by rcases hfr121 q hq with h | h; exact rel109 q h; exact .inr (by omega)
     have dis128 : ∀ q, F119 q → ¬ G q := fun q h1 h2 => by rcases hfr121 q h1 with h | h; exact dis110 q h h2; (have h4 := ltG q h2; omega)
     have dis129 : ∀ q, F119 q → ¬ H q := fun q h1 h2 => by rcases hfr121 q h1 with h | h; exact dis111 q h h2; (have h4 := ltH q h2; omega)
     have dis130 : ∀ q, F119 q → ¬ I q := fun q h1 h2 => by rcases hfr121 q h1 with h | h; exact dis112 q h h2; (have h4 := ltI q h2; omega)
     refine On 12 [1, 5, 6, 7, 8, 9, 15, 17, 18, 36, 37] <| Oer <| On 4 [1, 5, 6, 7, 8, 9, 17, 18, 36, 37] <| Oer <| On 4 [1, 5, 6, 7, 8, 9, 18, 36, 37, 106, 109] <| Lr 4 (nt now1) hb <| Oen [1, 5, 6, 7, 8, 9, 18, 36, 37, 111] <| Vi ((s1.rc (a : Int) (t : Int)).till > now1) (fun hc131 => ?_) (fun hc131 => ?_)
     ·
      refine V_region <| On 4 [1, 5, 6, 7, 8, 9, 36, 37] <| OI_end rfl <| X_block <| X_then <| V_region ?_
      have hw132 : IntKind.i64.wrap ((t : Int) + 1) = ((t + 1 : Nat) : Int) := wrp
      refine On 2 [1, 5, 6, 7, 8, 36, 37, 54] <| Oq (u := nt (IntKind.i64.wrap ((t : Int) + 1))) (v := nt ((t + 1 : Nat) : Int)) 54 (by rw [hw132]) <| Os 3 [(1, sl_ b25 o25 ac.length capl), (5, pt b7), (6, nt (i : Int)), (7, nt (a : Int)), (8, nt (imax (imax dk (dN (s1.rc (a : Int) (t : Int)))) ((s1.rc (a : Int) (t : Int)).n))), (9, nt ((t + 1 : Nat) : Int)), (36, nt (i : Int)), (37, .bool (decide ((i : Int) < 80)))] <| OI_end rfl ?_
      exact V_again (k68 - 1) (by omega) [(1, sl_ b25 o25 ac.length capl), (5, pt b7), (6, nt (i : Int)), (7, nt (a : Int)), (8, nt (imax (imax dk (dN (s1.rc (a : Int) (t : Int)))) ((s1.rc (a : Int) (t : Int)).n))), (9, nt ((t + 1 : Nat) : Int)), (36, nt (i : Int)), (37, .bool (decide ((i : Int) < 80)))] rfl ⟨t + 1, imax (imax dk (dN (s1.rc (a : Int) (t : Int)))) ((s1.rc (a : Int) (t : Int)).n), F119, by omega, ((imax_le _ _ _).2 ⟨((imax_le _ _ _).2 ⟨hdk, (hv_dn hh1 _ _)⟩), (hv_pr hh1 _ _)⟩), ho120, (fun q hq => by have h1 := own124 q hq; have h2 := lt123 q hq; omega), rel125, dis128, dis129, dis130, hk69, rfl⟩
     refine V_skip <| X_block <| X_then <| V_region ?_
     have hw133 : IntKind.i64.wrap ((t : Int) + 1) = ((t + 1 : Nat) : Int) := wrp
     refine On 2 [1, 5, 6, 7, 8, 36, 37, 54] <| Oq (u := nt (IntKind.i64.wrap ((t : Int) + 1))) (v := nt ((t + 1 : Nat) : Int)) 54 (by rw [hw133]) <| Os 3 [(1, sl_ b25 o25 ac.length capl), (5, pt b7), (6, nt (i : Int)), (7, nt (a : Int)), (8, nt (imax dk (dN (s1.rc (a : Int) (t : Int))))), (9, nt ((t + 1 : Nat) : Int)), (36, nt (i : Int)), (37, .bool (decide ((i : Int) < 80)))] <| OI_end rfl ?_
     exact V_again (k68 - 1) (by omega) [(1, sl_ b25 o25 ac.length capl), (5, pt b7), (6, nt (i : Int)), (7, nt (a : Int)), (8, nt (imax dk (dN (s1.rc (a : Int) (t : Int))))), (9, nt ((t + 1 : Nat) : Int)), (36, nt (i : Int)), (37, .bool (decide ((i : Int) < 80)))] rfl ⟨t + 1, imax dk (dN (s1.rc (a : Int) (t : Int))), F119, by omega, ((imax_le _ _ _).2 ⟨hdk, (hv_dn hh1 _ _)⟩), ho120, (fun q hq => by have h1 := own124 q hq; have h2 := lt123 q hq; omega), rel125, dis128, dis129, dis130, hk69, rfl⟩
    refine V_exit <| X_exit_then <| X_exit_then <| X_exit_here <| X_then <| V_seq <| Vd1 (acts [5, 14, 20]) none_ [0, 1, 2, 3, 4, 5, 6, 7, 8, 9, 10, 11, 12, 13, 14, 15, 16, 17, 18, 19, 20, 21, 22] fun w135 hk134 he136 K139 _ => ?_
    replace hb := hb.k0 hk134
    replace hl := hl.keep hk134 nk
    replace hk55 := hk55.tn hk134
    replace ho61 := ho61.keep hk134 nk
    have qhb := hb
    refine Gn [3, 4, 5, 6, 7, 8, 9, 10, 11, 12, 13, 14, 15, 16, 17, 18, 19, 20, 21, 22] [1, 5, 6, 7, 8, 36, 37, 117] <| Mr 0 (pt l) qhb <| Gn [5, 6, 7, 8, 9, 10, 11, 12, 13, 14, 15, 16, 17, 18, 19, 20, 21, 22] [1, 5, 6, 7, 8, 36, 37, 118, 119] <| Hg (locked_spec G l xs1 cs1 (a : Int) _ hl) ?_
    rintro _ w142 ⟨rfl, hk143⟩
    have K144 := K139.tr (Keep.ofNone hk143)
    refine ⟨_, rfl, K144, ?_⟩
    have hzK144 := Keep.size K144
    have hsz145 := Keep.size hk143
    replace hl := hl.keep hk143 nk
    replace hk55 := hk55.tn hk143
    replace ho61 := ho61.keep hk143 nk
    refine Gn [9, 10, 11, 12, 13, 14, 15, 16, 17, 18, 19, 20, 21, 22] [1, 5, 6, 7, 36, 37, 123] <| Gq_ (u := .bool (decide (lockedL cs1 (a : Int) < du))) (v := .bool false) 123 (by rw [decide_eq_false (show ¬ (lockedL cs1 (a : Int) < du) from (by omega))]) <| Gn [12, 13, 14, 15, 16, 17, 18, 19, 20, 21, 22] [1, 5, 6, 7, 36, 37, 123, 124, 125, 126] <| Mr 0 (pt l) qhb <| Gn [14, 15, 16, 17, 18, 19, 20, 21, 22] [1, 5, 6, 7, 36, 37, 123, 124, 125, 126, 127, 128] <| Hg (free_spec G l xs1 cs1 (a : Int) _ hl) ?_
    rintro _ w149 ⟨rfl, hk150⟩
    have K151 := K144.tr (Keep.ofNone hk150)
    refine ⟨_, rfl, K151, ?_⟩
    have hzK151 := Keep.size K151
    have hsz152 := Keep.size hk150
    replace hl := hl.keep hk150 nk
    replace hk55 := hk55.tn hk150
    replace ho61 := ho61.keep hk150 nk
    refine Gn [18, 19, 20, 21, 22] [1, 5, 6, 7, 36, 37, 123, 124, 125, 126, 127, 128, 129, 130, 131, 132] <| Mr 0 (pt l) qhb <| Gn [20, 21, 22] [1, 5, 6, 7, 36, 37, 123, 124, 125, 126, 127, 128, 129, 130, 131, 132, 133, 134] <| Jk (locked_spec G l xs1 cs1 (a : Int) _ hl) fun w155 hk156 _ => ?_
    replace hk55 := hk55.tn hk156
    replace ho61 := ho61.keep hk156 nk
    refine Gs [] [(1, sl_ b25 o25 ac.length capl), (5, pt b7), (6, nt (i : Int)), (7, nt (a : Int)), (36, nt (i : Int)), (37, .bool (decide ((i : Int) < 80))), (124, pt b7), (125, pt b7), (126, pt b7), (127, pt l), (128, nt (a : Int)), (129, nt ((acct xs1 (a : Int)).free)), (130, pt b7), (131, pt b7), (132, pt b7), (133, pt l), (134, nt (a : Int)), (135, nt (lockedL cs1 (a : Int))), (136, .bool (decide ((acct xs1 (a : Int)).free < lockedL cs1 (a : Int)))), (137, .bool (decide ((acct xs1 (a : Int)).free < lockedL cs1 (a : Int))))] <| GI_end <| X_then <| V_eq [(1, sl_ b25 o25 ac.length capl), (5, pt b7), (6, nt (i : Int)), (7, nt (a : Int)), (36, nt (i : Int)), (37, .bool (decide ((i : Int) < 80))), (124, pt b7), (125, pt b7), (126, pt b7), (127, pt l), (128, nt (a : Int)), (129, nt ((acct xs1 (a : Int)).free)), (130, pt b7), (131, pt b7), (132, pt b7), (133, pt l), (134, nt (a : Int)), (135, nt (lockedL cs1 (a : Int))), (136, .bool (decide ((acct xs1 (a : Int)).free < lockedL cs1 (a : Int)))), (137, .bool false)] (by rw [decide_eq_false (show ¬ ((acct xs1 (a : Int)).free < lockedL cs1 (a : Int)) from (by have h9 := hh1.gx (a : Int); omega))]) <| Vf <| V_skip <| X_block <| X_then <| V_region ?_
    have hw159 : IntKind.i64.wrap ((a : Int) + 1) = ((a + 1 : Nat) : Int) := wrp
    refine On 2 [1, 5, 6, 36, 37, 50, 124, 125, 126, 127, 128, 129, 130, 131, 132, 133, 134, 135, 136] <| Oq (u := nt (IntKind.i64.wrap ((a : Int) + 1))) (v := nt ((a + 1 : Nat) : Int)) 50 (by rw [hw159]) <| Os 3 [(1, sl_ b25 o25 ac.length capl), (5, pt b7), (6, nt (i : Int)), (7, nt ((a + 1 : Nat) : Int)), (36, nt (i : Int)), (37, .bool (decide ((i : Int) < 80))), (124, pt b7), (125, pt b7), (126, pt b7), (127, pt l), (128, nt (a : Int)), (129, nt ((acct xs1 (a : Int)).free)), (130, pt b7), (131, pt b7), (132, pt b7), (133, pt l), (134, nt (a : Int)), (135, nt (lockedL cs1 (a : Int))), (136, .bool (decide ((acct xs1 (a : Int)).free < lockedL cs1 (a : Int))))] <| OI_end rfl ?_
    exact V_again (k54 - 1) (by omega) [(1, sl_ b25 o25 ac.length capl), (5, pt b7), (6, nt (i : Int)), (7, nt ((a + 1 : Nat) : Int)), (36, nt (i : Int)), (37, .bool (decide ((i : Int) < 80)))] rfl ⟨a + 1, F60, by omega, ho61, (fun q hq => by have h1 := own62 q hq; have h2 := lt71 q hq; omega), rel72, dis64, dis65, dis66, hk55, rfl⟩
   refine V_exit <| X_exit_then <| X_exit_then <| X_exit_here <| X_block <| X_then <| V_region ?_
   have hw160 : IntKind.i64.wrap ((i : Int) + 1) = ((i + 1 : Nat) : Int) := wrp
   refine On 2 [1, 5, 36, 37, 40] <| Oq (u := nt (IntKind.i64.wrap ((i : Int) + 1))) (v := nt ((i + 1 : Nat) : Int)) 40 (by rw [hw160]) <| Os 3 [(1, sl_ b25 o25 ac.length capl), (5, pt b7), (6, nt ((i + 1 : Nat) : Int)), (36, nt (i : Int)), (37, .bool (decide ((i : Int) < 80)))] <| OI_end rfl ?_
   obtain ⟨B161, hBo161, hbr161_0, hp161⟩ : ∃ B9 : Nat → Prop, (∀ q, B9 q → w.heap.size ≤ q) ∧ (∀ q, B9 q → B8 q ∨ w5.heap.size ≤ q) ∧ Pl B9 w53 b7 s1 xs1 cs1 now1 := ⟨fun q => q = b7 ∨ F46 q ∨ G q ∨ H q ∨ I q, fun q hq => by rcases hq with h | h | h | h | h; omega; (have h1 := own48 q h; omega); (have h1 := hoG q h; omega); (have h1 := hoH q h; omega); (have h1 := hoI q h; omega), (fun q hq => by rcases hq with h | h | h | h | h; (rw [h]; exact hrb41); exact rel58 q h; exact hrG43 q h; exact hrH44 q h; exact hrI45 q h), fun q hq => by rcases hq with h | h | h | h | h; omega; (have h1 := lt57 q h; omega); (have h1 := ltG q h; omega); (have h1 := ltH q h; omega); (have h1 := ltI q h; omega), .inl rfl, F46, G, H, I, v, l, x, y, ⟨hb, ho47, hl, hx, hy, fun q hq => ⟨.inr (.inl hq), by have h1 := own48 q hq; have h2 := lt57 q hq; omega⟩, fun q hq => ⟨.inr (.inr (.inl hq)), by have h1 := hoG q hq; have h2 := ltG q hq; omega⟩, fun q hq => ⟨.inr (.inr (.inr (.inl hq))), by have h1 := hoH q hq; have h2 := ltH q hq; omega⟩, fun q hq => ⟨.inr (.inr (.inr (.inr hq))), by have h1 := hoI q hq; have h2 := ltI q hq; omega⟩, dis50, dis51, dis52, hpl.gh, hpl.gi, hpl.hi⟩⟩
   have ltp161 := Pl.lt hp161
   exact V_again (k19 - 1) (by omega) [(1, sl_ b25 o25 ac.length capl), (5, pt b7), (6, nt ((i + 1 : Nat) : Int))] rfl ⟨i + 1, s1, xs1, cs1, now1, B161, by omega, by omega, hcl1, hh1, hp161, (fun q hq => by have h1 := hBo161 q hq; have h2 := ltp161 q hq; omega), hbr161_0, hk20, rfl⟩
  refine V_exit <| X_exit_then <| X_exit_then <| X_exit_here <| X_then <| Vr <| Kk (known_spec _) fun w164 hk165 _ => ?_
  replace hK0 := hK0.tn hk165
  exact Oen [4] <| Rr (.bool true) ⟨rfl, hK0⟩
 refine Df 35 hg23 <| Oen [1, 5, 6, 36, 37, 38] <| Vf <| V_exit <| X_exit_then <| X_exit_then <| X_exit_here <| X_then <| Vr <| Kk (known_spec _) fun w169 hk170 _ => ?_
 replace hK0 := hK0.tn hk170
 exact Oen [4] <| Rr (.bool true) ⟨rfl, hK0⟩
theorem over_VotingHolds {H : Type} {enc : TypeId × Value → H} {A L : Option Addr} {len cap lenl capl : Nat} {d dl : DataW H} {ps pl : List MemPlace} {w : World} (h : DataW.Trod enc Tryz.prog w 0 (fun _ => true) true 28 (.slice A len cap) d ps) (hl : DataW.Trod enc Tryz.prog w 0 (fun _ => true) true 70 (.slice L lenl capl) dl pl) : Calls Tryz.prog 10 #[.slice A len cap, .slice L lenl capl] w (rk_ w (.bool true)) := by
  obtain ⟨fs, rfl, hA, hl1, hc⟩ := read_elems (f := intc) (ks := [.int .i64]) (n := 1) (sz := 1) lift_int Tryz.underlying28 (by kernel_rfl) (by kernel_rfl) rfl (by decide) h
  obtain ⟨ac, rfl, hL, hl2, hcl⟩ := read_elems (f := Av.cells) (ks := ksA) (n := 5) (sz := 14) lift_av Tryz.underlying70 (by kernel_rfl) (by kernel_rfl) rfl (by decide) hl
  exact walk_VotingHolds A L cap capl fs ac w hA hL (by unfold maxLen at hc; omega) (by unfold maxLen at hcl; omega)
end Go.Al
