/-
  Put together out of 1 texts: The laws of voting that play in both: what errs.
-/
import Derived.Test.YtglgnmoglbbkmaaGreatVotingErrsB8
open Go.IntKind (i64)
set_option maxRecDepth 10000
namespace Go.Al
open Go Go.RowKit Go.Proofs
set_option maxHeartbeats 4000000 in
theorem walk_VotingErrs (A L : Option Addr) (cap capl : Nat) (fs : List Int) (ac : List Av) (z : Av) (w : World) (hA0 : ArgT w 1 intc A cap fs) (hL0 : ArgT w 14 Av.cells L capl ac) (hcap : fs.length ≤ 9223372036854775807) (hcapl : ac.length ≤ 9223372036854775807) : Calls Tryz.prog 12 #[.slice A fs.length cap, .slice L ac.length capl, .agg z.cells.toArray] w (rk_ w (.bool true)) := by
 have hA := hA0
 have hL := hL0
 have hK0 := Keep.refl none_ w
 refine eV ?_
 refine Vr <| OI_box 60 (.tmp 2) (.agg (Av.cells z).toArray) (Av.cells z) (some 5) (by kernel_rfl) (by kernel_rfl) rfl ?_
 intro b1 w1 e1 hb1 k1 z1
 have hsz2 := Keep.size k1
 replace hA := ArgT.keep0 hA k1
 replace hL := ArgT.keep0 hL k1
 replace hK0 := hK0.tn k1
 have hb1lt := hb1.lt
 refine On 2 [0, 1, 5] <| Oe <| V_seq <| Vr <| On 4 [0, 1, 5, 13] ?_
 by_cases hg3 : (ac.length : Int) > 10000
 ·
  exact Dt 13 hg3 <| Oen [0, 1, 5, 17] <| Vo <| Vn [6] <| Rt <| Xr (.bool true) ⟨rfl, hK0⟩
 refine Df 13 hg3 <| Oen [0, 1, 5, 17] <| Vi ((fs.length : Int) > 1000) (fun hc4 => ?_) (fun hc4 => ?_)
 ·
  exact Vn [6] <| Rt <| Xr (.bool true) ⟨rfl, hK0⟩
 refine Vsk <| Vr <| On 1 [1, 5, 18] <| Kg (begin_pl A cap fs _ hA (by omega)) ?_
 rintro _ w5 ⟨b7, B8, rfl, ho9, hk6, hge10⟩
 refine ⟨_, rfl, ?_⟩
 have hsz11 := Keep.size hk6
 replace hb1 := hb1.k0 hk6
 replace hL := ArgT.keep0 hL hk6
 replace hK0 := hK0.tn hk6
 have own12 : ∀ q, B8 q → w1.heap.size ≤ q ∧ q ≠ b1 := fun q hq => by have h1 := hge10 q hq; omega
 have lt13 := Pl.lt ho9
 have hb7lt : b7 < w5.heap.size := Pl.lt ho9 _ (Pl.at_ ho9)
 refine On 3 [1, 5, 7] <| Oe <| V_seq <| Vn [1, 5, 7, 21] <| Vf <| Vsk <| V_seq <| Vs [(1, .slice L ac.length capl), (5, pt b1), (7, pt b7), (8, nt 0)] <| V_blockJ (fun wI e => ∃ s : VS, ∃ xs : List Acc, ∃ cs : List Ci, ∃ now : Int, ∃ F14 : Nat → Prop, (cs.length ≤ 80) ∧ (Pl F14 wI b7 s xs cs now) ∧ (∀ q, F14 q → w1.heap.size ≤ q ∧ q ≠ b1) ∧ (∀ q, F14 q → B8 q ∨ w5.heap.size ≤ q) ∧ Keep B8 w5 wI ∧ e = [(5, pt b1), (7, pt b7)]) ?_ ?_
 ·
  have hk18 : Keep B8 w5 w5 := Keep.refl _ _
  have rel19 : ∀ q, B8 q → B8 q ∨ w5.heap.size ≤ q := fun q h => .inl h
  refine Vp [(1, .slice L ac.length capl), (5, pt b1), (7, pt b7), (8, nt 0)] <| V_loop (fun k wI e => ∃ i : Nat, ∃ s : VS, ∃ xs : List Acc, ∃ cs : List Ci, ∃ now : Int, ∃ F20 : Nat → Prop, (k + i = min ac.length 80) ∧ (i ≤ 80) ∧ (cs.length ≤ i) ∧ (Pl F20 wI b7 s xs cs now) ∧ (∀ q, F20 q → w1.heap.size ≤ q ∧ q ≠ b1) ∧ (∀ q, F20 q → B8 q ∨ w5.heap.size ≤ q) ∧ Keep B8 w5 wI ∧ e = [(1, .slice L ac.length capl), (5, pt b1), (7, pt b7), (8, nt (i : Int))]) (min ac.length 80) ⟨0, VS.zero, (newX (msk24 (fs.take 10)) 10), [], 0, B8, by omega, by omega, by simp, ho9, (fun q hq => by have h1 := own12 q hq; have h2 := lt13 q hq; omega), fun q h => .inl h, Keep.refl _ _, rfl⟩ ?_
  rintro k25 w24 _ ⟨i, s, xs, cs, now, F20, hki, hi9, hcl, ho21, own22, rel23, hk26, rfl⟩
  have hsz27 := Keep.size hk26
  replace hL := ArgT.keep hL hk26 hL0 (fun k hk hs => by have h1 := own12 k hs; have h2 := lt13 k hs; omega)
  replace hk18 := frr hk18 hk26 rel19
  have hzhk26 := Keep.size hk26
  have lt28 := Pl.lt ho21
  have rel29 : ∀ q, F20 q → B8 q ∨ w5.heap.size ≤ q := fun q hq => by rcases rel23 q hq with h | h; exact rel19 q h; exact .inr (by omega)
  have hb7lt : b7 < w24.heap.size := Pl.lt ho21 _ (Pl.at_ ho21)
  refine V_seq <| Vr <| On 5 [1, 5, 7, 8, 26] ?_
  by_cases hg30 : (i : Int) < (ac.length : Int)
  ·
   refine Dt 26 hg30 <| Ose [(1, .slice L ac.length capl), (5, pt b1), (7, pt b7), (8, nt (i : Int)), (27, nt (i : Int)), (28, .bool (decide ((i : Int) < 80))), (29, .bool (decide ((i : Int) < 80)))] <| Vi ((i : Int) < 80) (fun hc31 => ?_) (fun hc31 => ?_)
   ·
    refine Vsk <| V_seq <| V_block <| Vr <| On 3 [1, 5, 7, 8, 27, 28, 32, 33, 34] ?_
    obtain ⟨b32, o32, L32, rfl, hat32⟩ := ArgT.open_ hL (by first | omega | (simp only [List.length_map]; omega) | (simp; done) | (simp; omega))
    have hb32lt0 := ArgT.lt hL0 (by first | omega | (simp only [List.length_map]; omega) | (simp; done) | (simp; omega))
    have hb32lt := hat32.blk.lt
    refine Oi (b := b32) (o := o32) (len := ac.length) (cap := capl) (j := i) (some 35) 70 (.tmp 33) (.tmp 34) 60 14 112 .i64 ?_
    obtain ⟨x33, hx34⟩ := exAt (xs := ac) (i := i)
    refine OI_aggR 60 (.tmp 35) (o32 + i * 14) (Av.cells x33) (some 36) (by kernel_rfl) (by kernel_rfl) hat32.blk (m := 14) (by kernel_rfl) (AtR.elem' hat32 _ _ (es_at hx34)) (AtR.len hat32 (es_at hx34)) <| Kg (act_pl F20 b7 s xs cs now x33 _ ho21 (by omega)) ?_
    rintro _ w37 ⟨rfl, ⟨F39, ho40, hfr41⟩, hk38⟩
    refine ⟨_, rfl, ?_⟩
    have hsz42 := Keep.size hk38
    replace hk26 := frr hk26 hk38 rel29
    have own44 : ∀ q, F39 q → w1.heap.size ≤ q ∧ q ≠ b1 := fun q hq => by rcases hfr41 q hq with h | h; (have h1 := own22 q h; have h2 := lt28 q h; omega); omega
    have lt43 := Pl.lt ho40
    have rel45 : ∀ q, F39 q → B8 q ∨ w5.heap.size ≤ q := fun q hq => by rcases hfr41 q hq with h | h; exact rel29 q h; exact .inr (by omega)
    refine Oen [1, 5, 7, 8, 27, 28, 38] <| Vf <| V_skip <| X_block <| X_then <| V_region ?_
    have hw46 : i64.wrap ((i : Int) + 1) = ((i + 1 : Nat) : Int) := wrp
    refine On 2 [1, 5, 7, 27, 28, 31] <| Oq (u := nt (i64.wrap ((i : Int) + 1))) (v := nt ((i + 1 : Nat) : Int)) 31 (by rw [hw46]) <| Os 3 [(1, sl_ b32 o32 ac.length capl), (5, pt b1), (7, pt b7), (8, nt ((i + 1 : Nat) : Int)), (27, nt (i : Int)), (28, .bool (decide ((i : Int) < 80)))] <| OI_end rfl ?_
    exact V_again (k25 - 1) (by omega) [(1, sl_ b32 o32 ac.length capl), (5, pt b1), (7, pt b7), (8, nt ((i + 1 : Nat) : Int))] rfl ⟨i + 1, (actS x33 now s xs), (actX x33 xs cs), (actC x33 now s xs cs), (actN x33 now), F39, by omega, by omega, Nat.le_trans (actC_len _ _ _ _ _) (by omega), ho40, (fun q hq => by have h1 := own44 q hq; have h2 := lt43 q hq; omega), rel45, hk26, rfl⟩
   refine V_exit <| X_exit_then <| X_exit_then <| X_exit_here ?_
   exact X_join [(5, pt b1), (7, pt b7)] rfl ⟨s, xs, cs, now, F20, by omega, ho21, (fun q hq => by have h1 := own22 q hq; have h2 := lt28 q hq; omega), rel29, hk18, rfl⟩
  refine Df 26 hg30 <| Ose [(1, .slice L ac.length capl), (5, pt b1), (7, pt b7), (8, nt (i : Int)), (27, undef), (28, undef), (29, .bool false)] <| Vf <| V_exit <| X_exit_then <| X_exit_then <| X_exit_here ?_
  exact X_join [(5, pt b1), (7, pt b7)] rfl ⟨s, xs, cs, now, F20, by omega, ho21, (fun q hq => by have h1 := own22 q hq; have h2 := lt28 q hq; omega), rel29, hk18, rfl⟩
 ·
  rintro w47 _ ⟨s, xs, cs, now, F14, hcl, ho15, own16, rel17, hk48, rfl⟩
  have hsz49 := Keep.size hk48
  replace hb1 := hb1.keep hk48 (fun hs => by have h1 := own12 _ hs; have h2 := lt13 _ hs; omega)
  replace hK0 := Keep.fresh hK0 hk48 (by intro i hi hs; have h1 := own12 i hs; have h2 := lt13 i hs; omega)
  have lt50 := Pl.lt ho15
  have hb7lt : b7 < w47.heap.size := Pl.lt ho15 _ (Pl.at_ ho15)
  refine X_then <| Vr <| On 1 [5, 7, 9] <| Oe <| V_seq <| Vr <| Os 1 [(5, pt b1), (7, pt b7), (9, nt 0), (39, pt b1)] <| Oc 3 (.tmp 39) 0 (nt z.k) (some 40) hb1 rfl <| Oe ?_
  have hBw : w.heap.size ≤ b7 ∧ b7 ≠ b1 := by have h1 := own16 _ (Pl.at_ ho15); omega
  have hrb51 : B8 b7 ∨ w5.heap.size ≤ b7 := rel17 _ (Pl.at_ ho15)
  obtain ⟨_, hBb, F, G, H, I, v, l, x, y, hpl⟩ := ho15
  have hb := hpl.blk
  have hb7lt := hb.lt
  have hv := hpl.hv
  have hoF : ∀ q, F q → w.heap.size ≤ q ∧ q ≠ b7 ∧ q ≠ b1 := fun q hq => by have h1 := own16 q (hpl.inF q hq).1; have h2 := (hpl.inF q hq).2; omega
  have ltF := VotT.lt hv
  have hvlt := ltF _ (VotT.at_ hv)
  have hvb := hoF _ (VotT.at_ hv)
  have hrF52 : ∀ q, F q → B8 q ∨ w5.heap.size ≤ q := fun q hq => rel17 q (hpl.inF q hq).1
  have hl := hpl.hl
  have hoG : ∀ q, G q → w.heap.size ≤ q ∧ q ≠ b7 ∧ q ≠ b1 := fun q hq => by have h1 := own16 q (hpl.inG q hq).1; have h2 := (hpl.inG q hq).2; omega
  have ltG := Led.lt hl
  have hllt := ltG _ (Led.at_ hl)
  have hlb := hoG _ (Led.at_ hl)
  have hrG53 : ∀ q, G q → B8 q ∨ w5.heap.size ≤ q := fun q hq => rel17 q (hpl.inG q hq).1
  have hx := hpl.hx
  have hoH : ∀ q, H q → w.heap.size ≤ q ∧ q ≠ b7 ∧ q ≠ b1 := fun q hq => by have h1 := own16 q (hpl.inH q hq).1; have h2 := (hpl.inH q hq).2; omega
  have ltH := DLd.lt hx
  have hxlt := ltH _ (DLd.at_ hx)
  have hxb := hoH _ (DLd.at_ hx)
  have hrH54 : ∀ q, H q → B8 q ∨ w5.heap.size ≤ q := fun q hq => rel17 q (hpl.inH q hq).1
  have hy := hpl.hy
  have hoI : ∀ q, I q → w.heap.size ≤ q ∧ q ≠ b7 ∧ q ≠ b1 := fun q hq => by have h1 := own16 q (hpl.inI q hq).1; have h2 := (hpl.inI q hq).2; omega
  have ltI := DVt.lt hy
  have hylt := ltI _ (DVt.at_ hy)
  have hyb := hoI _ (DVt.at_ hy)
  have hrI55 : ∀ q, I q → B8 q ∨ w5.heap.size ≤ q := fun q hq => rel17 q (hpl.inI q hq).1
  refine V_blockJ (fun wI e => ∃ E9 : Int, ∃ s9 : VS, ∃ C9 : List Ci, ∃ F56 : Nat → Prop, ∃ F60 : Nat → Prop, (¬ E9 = 0 → s9 = s ∧ C9 = cs) ∧ (VotT F56 wI v s9) ∧ (∀ q, F56 q → w.heap.size ≤ q ∧ q ≠ b1 ∧ q ≠ b7) ∧ (∀ q, F56 q → F q ∨ w47.heap.size ≤ q) ∧ (∀ q, F56 q → ¬ H q) ∧ (∀ q, F56 q → ¬ I q) ∧ (Led F60 wI l xs C9) ∧ (∀ q, F60 q → w.heap.size ≤ q ∧ q ≠ b1 ∧ q ≠ b7) ∧ (∀ q, F60 q → G q ∨ w47.heap.size ≤ q) ∧ (∀ q, F60 q → ¬ H q) ∧ (∀ q, F60 q → ¬ I q) ∧ (∀ q, F60 q → ¬ F56 q) ∧ Keep (fun q => F q ∨ G q) w47 wI ∧ e = [(7, pt b7), (9, nt E9)]) ?_ ?_
  ·
   have hk69 : Keep (fun q => F q ∨ G q) w47 w47 := Keep.refl _ _
   have rel70 : ∀ q, F q → F q ∨ w47.heap.size ≤ q := fun q h => .inl h
   have rel71 : ∀ q, G q → G q ∨ w47.heap.size ≤ q := fun q h => .inl h
   refine Vn [5, 7, 9, 40, 41] <| Vi (z.k = 1) (fun hc72 => ?_) (fun hc72 => ?_)
   ·
    refine Vd1 (acts [8]) none_ [0, 1, 2, 3, 4, 5, 6, 7, 8, 9] fun w74 hk73 he75 K78 _ => ?_
    replace hb1 := hb1.k0 hk73
    replace hb := hb.k0 hk73
    replace hv := hv.keep hk73 nk
    replace hl := hl.keep hk73 nk
    replace hk69 := hk69.tn hk73
    have qhb1 := hb1
    have qhb := hb
    refine Gn [3, 4, 5, 6, 7, 8, 9] [5, 7, 45] <| Mr 1 (pt v) qhb <| Gn [5, 6, 7, 8, 9] [5, 7, 46, 47] <| Mr 2 (nt z.ref) qhb1 <| Gn [7, 8, 9] [7, 46, 48, 49] <| Mr 3 (nt z.tr) qhb1 <| Jg (open_specT F v s z.ref z.tr _ hv) ?_
    rintro _ w79 ⟨rfl, ⟨F81, ho82, hfr83⟩, hk80⟩
    refine ⟨_, rfl, ?_⟩
    have hsz84 := Keep.size hk80
    replace hl := hl.keep hk80 (fun q hq hs => hpl.fg q hs hq)
    replace hk69 := frl hk69 hk80 rel70
    have own86 : ∀ q, F81 q → w.heap.size ≤ q ∧ q ≠ b1 ∧ q ≠ b7 := fun q hq => by rcases hfr83 q hq with h | h; (have h1 := hoF q h; have h2 := ltF q h; omega); omega
    have lt85 := VotT.lt ho82
    have rel87 : ∀ q, F81 q → B8 q ∨ w5.heap.size ≤ q := fun q hq => by rcases hfr83 q hq with h | h; exact hrF52 q h; exact .inr (by omega)
    have rel88 : ∀ q, F81 q → F q ∨ w47.heap.size ≤ q := fun q hq => by rcases hfr83 q hq with h | h; exact rel70 q h; exact .inr (by omega)
    have dis89 : ∀ q, F81 q → ¬ G q := fun q h1 h2 => by rcases hfr83 q h1 with h | h; exact hpl.fg q h h2; (have h4 := ltG q h2; omega)
    have dis90 : ∀ q, F81 q → ¬ H q := fun q h1 h2 => by rcases hfr83 q h1 with h | h; exact hpl.fh q h h2; (have h4 := ltH q h2; omega)
    have dis91 : ∀ q, F81 q → ¬ I q := fun q h1 h2 => by rcases hfr83 q h1 with h | h; exact hpl.fi q h h2; (have h4 := ltI q h2; omega)
    refine Gs [] [(7, pt b7), (9, nt (openE s z.ref z.tr))] <| GI_end <| X_block ?_
    exact X_join [(7, pt b7), (9, nt (openE s z.ref z.tr))] rfl ⟨openE s z.ref z.tr, (openS s z.ref z.tr), cs, F81, G, (fun h9 => ⟨openS_err h9, rfl⟩), ho82, (fun q hq => by have h1 := own86 q hq; have h2 := lt85 q hq; omega), rel88, dis90, dis91, hl, (fun q hq => by have h1 := hoG q hq; have h2 := ltG q hq; omega), rel71, hpl.gh, hpl.gi, (fun q h1 h2 => dis89 q h2 h1), hk69, rfl⟩
   refine Vn [5, 7, 9, 40, 52] <| Vi (z.k = 2) (fun hc92 => ?_) (fun hc92 => ?_)
   ·
    refine Vd1 (acts [12]) none_ [0, 1, 2, 3, 4, 5, 6, 7, 8, 9, 10, 11, 12, 13] fun w94 hk93 he95 K98 _ => ?_
    replace hb1 := hb1.k0 hk93
    replace hb := hb.k0 hk93
    replace hv := hv.keep hk93 nk
    replace hl := hl.keep hk93 nk
    replace hk69 := hk69.tn hk93
    have qhb1 := hb1
    have qhb := hb
    refine Gn [3, 4, 5, 6, 7, 8, 9, 10, 11, 12, 13] [5, 7, 56] <| Mr 1 (pt v) qhb <| Gn [5, 6, 7, 8, 9, 10, 11, 12, 13] [5, 7, 57, 58] <| Mr 2 (nt z.ref) qhb1 <| Gn [7, 8, 9, 10, 11, 12, 13] [7, 57, 59, 60] <| Mr 4 (nt z.st) qhb1 <| Gn [11, 12, 13] [7, 57, 59, 61, 64] <| Mr 4 (nt now) qhb <| Jg (close_specT F v s z.ref z.st now _ hv) ?_
    rintro _ w99 ⟨rfl, ⟨F101, ho102, hfr103⟩, hk100⟩
    refine ⟨_, rfl, ?_⟩
    have hsz104 := Keep.size hk100
    replace hl := hl.keep hk100 (fun q hq hs => hpl.fg q hs hq)
    replace hk69 := frl hk69 hk100 rel70
    have own106 : ∀ q, F101 q → w.heap.size ≤ q ∧ q ≠ b1 ∧ q ≠ b7 := fun q hq => by rcases hfr103 q hq with h | h; (have h1 := hoF q h; have h2 := ltF q h; omega); omega
    have lt105 := VotT.lt ho102
    have rel107 : ∀ q, F101 q → B8 q ∨ w5.heap.size ≤ q := fun q hq => by rcases hfr103 q hq with h | h; exact hrF52 q h; exact .inr (by omega)
    have rel108 : ∀ q, F101 q → F q ∨ w47.heap.size ≤ q := fun q hq => by rcases hfr103 q hq with h | h; exact rel70 q h; exact .inr (by omega)
    have dis109 : ∀ q, F101 q → ¬ G q := fun q h1 h2 => by rcases hfr103 q h1 with h | h; exact hpl.fg q h h2; (have h4 := ltG q h2; omega)
    have dis110 : ∀ q, F101 q → ¬ H q := fun q h1 h2 => by rcases hfr103 q h1 with h | h; exact hpl.fh q h h2; (have h4 := ltH q h2; omega)
    have dis111 : ∀ q, F101 q → ¬ I q := fun q h1 h2 => by rcases hfr103 q h1 with h | h; exact hpl.fi q h h2; (have h4 := ltI q h2; omega)
    refine Gs [] [(7, pt b7), (9, nt (closeE s z.ref z.st))] <| GI_end <| X_block ?_
    exact X_join [(7, pt b7), (9, nt (closeE s z.ref z.st))] rfl ⟨closeE s z.ref z.st, (closeS s z.ref z.st now), cs, F101, G, (fun h9 => ⟨closeS_err h9, rfl⟩), ho102, (fun q hq => by have h1 := own106 q hq; have h2 := lt105 q hq; omega), rel108, dis110, dis111, hl, (fun q hq => by have h1 := hoG q hq; have h2 := ltG q hq; omega), rel71, hpl.gh, hpl.gi, (fun q h1 h2 => dis109 q h2 h1), hk69, rfl⟩
   refine Vn [5, 7, 9, 40, 67] <| Vi (z.k = 3) (fun hc112 => ?_) (fun hc112 => ?_)
   ·
    refine Vd1 (acts [14]) none_ [0, 1, 2, 3, 4, 5, 6, 7, 8, 9, 10, 11, 12, 13, 14, 15] fun w114 hk113 he115 K118 _ => ?_
    replace hb1 := hb1.k0 hk113
    replace hb := hb.k0 hk113
    replace hv := hv.keep hk113 nk
    replace hl := hl.keep hk113 nk
    replace hk69 := hk69.tn hk113
    have qhb1 := hb1
    have qhb := hb
    refine Gn [3, 4, 5, 6, 7, 8, 9, 10, 11, 12, 13, 14, 15] [5, 7, 71] <| Mr 1 (pt v) qhb <| Gn [7, 8, 9, 10, 11, 12, 13, 14, 15] [5, 7, 72, 75] <| Mr 0 (pt l) qhb <| Gn [9, 10, 11, 12, 13, 14, 15] [5, 7, 72, 76, 77] <| Mr 1 (nt z.who) qhb1 <| Gn [11, 12, 13, 14, 15] [5, 7, 72, 76, 78, 79] <| Mr 2 (nt z.ref) qhb1 <| Gn [13, 14, 15] [7, 72, 76, 78, 80, 81] <| Ma 8 [nt z.v.kind, .bool z.v.aye, nt z.v.level, nt z.v.a, nt z.v.n, nt z.v.s] 6 qhb1 id rfl rfl <| Jg (vote_spec F G v l s xs cs z.who z.ref z.v _ hv hl hpl.fg (by omega)) ?_
    rintro _ w119 ⟨rfl, ⟨F121, F124, ho122, ho125, hfr123, hfr126, hdis127⟩, hk120⟩
    refine ⟨_, rfl, ?_⟩
    have hsz128 := Keep.size hk120
    replace hk69 := Keep.fresh hk69 hk120 (fun i hi hs => by rcases hs with hs | hs; (rcases rel70 i hs with h | h; exact .inl h; (exfalso; omega)); (rcases rel71 i hs with h | h; exact .inr h; (exfalso; omega)))
    have own130 : ∀ q, F121 q → w.heap.size ≤ q ∧ q ≠ b1 ∧ q ≠ b7 := fun q hq => by rcases hfr123 q hq with h | h; (have h1 := hoF q h; have h2 := ltF q h; omega); omega
    have lt129 := VotT.lt ho122
    have rel131 : ∀ q, F121 q → B8 q ∨ w5.heap.size ≤ q := fun q hq => by rcases hfr123 q hq with h | h; exact hrF52 q h; exact .inr (by omega)
    have rel132 : ∀ q, F121 q → F q ∨ w47.heap.size ≤ q := fun q hq => by rcases hfr123 q hq with h | h; exact rel70 q h; exact .inr (by omega)
    have dis133 : ∀ q, F121 q → ¬ H q := fun q h1 h2 => by rcases hfr123 q h1 with h | h; exact hpl.fh q h h2; (have h4 := ltH q h2; omega)
    have dis134 : ∀ q, F121 q → ¬ I q := fun q h1 h2 => by rcases hfr123 q h1 with h | h; exact hpl.fi q h h2; (have h4 := ltI q h2; omega)
    have own136 : ∀ q, F124 q → w.heap.size ≤ q ∧ q ≠ b1 ∧ q ≠ b7 := fun q hq => by rcases hfr126 q hq with h | h; (have h1 := hoG q h; have h2 := ltG q h; omega); omega
    have lt135 := Led.lt ho125
    have rel137 : ∀ q, F124 q → B8 q ∨ w5.heap.size ≤ q := fun q hq => by rcases hfr126 q hq with h | h; exact hrG53 q h; exact .inr (by omega)
    have rel138 : ∀ q, F124 q → G q ∨ w47.heap.size ≤ q := fun q hq => by rcases hfr126 q hq with h | h; exact rel71 q h; exact .inr (by omega)
    have dis139 : ∀ q, F124 q → ¬ H q := fun q h1 h2 => by rcases hfr126 q h1 with h | h; exact hpl.gh q h h2; (have h4 := ltH q h2; omega)
    have dis140 : ∀ q, F124 q → ¬ I q := fun q h1 h2 => by rcases hfr126 q h1 with h | h; exact hpl.gi q h h2; (have h4 := ltI q h2; omega)
    refine Gs [] [(7, pt b7), (9, nt (voteE xs s z.who z.ref z.v))] <| GI_end <| X_block ?_
    exact X_join [(7, pt b7), (9, nt (voteE xs s z.who z.ref z.v))] rfl ⟨voteE xs s z.who z.ref z.v, (voteS xs s z.who z.ref z.v), (voteC xs cs s z.who z.ref z.v), F121, F124, (fun h9 => ⟨voteS_err h9, voteC_err h9⟩), ho122, (fun q hq => by have h1 := own130 q hq; have h2 := lt129 q hq; omega), rel132, dis133, dis134, ho125, (fun q hq => by have h1 := own136 q hq; have h2 := lt135 q hq; omega), rel138, dis139, dis140, (fun q h1 h2 => hdis127 q h2 h1), hk69, rfl⟩
   refine Vn [5, 7, 9, 40, 84] <| Vi (z.k = 4) (fun hc141 => ?_) (fun hc141 => ?_)
   ·
    refine Vd1 (acts [12]) none_ [0, 1, 2, 3, 4, 5, 6, 7, 8, 9, 10, 11, 12, 13] fun w143 hk142 he144 K147 _ => ?_
    replace hb1 := hb1.k0 hk142
    replace hb := hb.k0 hk142
    replace hv := hv.keep hk142 nk
    replace hl := hl.keep hk142 nk
    replace hk69 := hk69.tn hk142
    have qhb1 := hb1
    have qhb := hb
    refine Gn [3, 4, 5, 6, 7, 8, 9, 10, 11, 12, 13] [5, 7, 88] <| Mr 1 (pt v) qhb <| Gn [5, 6, 7, 8, 9, 10, 11, 12, 13] [5, 7, 89, 90] <| Mr 1 (nt z.who) qhb1 <| Gn [7, 8, 9, 10, 11, 12, 13] [7, 89, 91, 92] <| Mr 2 (nt z.ref) qhb1 <| Gn [11, 12, 13] [7, 89, 91, 93, 96] <| Mr 4 (nt now) qhb <| Jg (unvote_specT F v s z.who z.ref now _ hv) ?_
    rintro _ w148 ⟨rfl, ⟨F150, ho151, hfr152⟩, hk149⟩
    refine ⟨_, rfl, ?_⟩
    have hsz153 := Keep.size hk149
    replace hl := hl.keep hk149 (fun q hq hs => hpl.fg q hs hq)
    replace hk69 := frl hk69 hk149 rel70
    have own155 : ∀ q, F150 q → w.heap.size ≤ q ∧ q ≠ b1 ∧ q ≠ b7 := fun q hq => by rcases hfr152 q hq with h | h; (have h1 := hoF q h; have h2 := ltF q h; omega); omega
    have lt154 := VotT.lt ho151
    have rel156 : ∀ q, F150 q → B8 q ∨ w5.heap.size ≤ q := fun q hq => by rcases hfr152 q hq with h | h; exact hrF52 q h; exact .inr (by omega)
    have rel157 : ∀ q, F150 q → F q ∨ w47.heap.size ≤ q := fun q hq => by rcases hfr152 q hq with h | h; exact rel70 q h; exact .inr (by omega)
    have dis158 : ∀ q, F150 q → ¬ G q := fun q h1 h2 => by rcases hfr152 q h1 with h | h; exact hpl.fg q h h2; (have h4 := ltG q h2; omega)
    have dis159 : ∀ q, F150 q → ¬ H q := fun q h1 h2 => by rcases hfr152 q h1 with h | h; exact hpl.fh q h h2; (have h4 := ltH q h2; omega)
    have dis160 : ∀ q, F150 q → ¬ I q := fun q h1 h2 => by rcases hfr152 q h1 with h | h; exact hpl.fi q h h2; (have h4 := ltI q h2; omega)
    refine Gs [] [(7, pt b7), (9, nt (unvE s z.who z.ref))] <| GI_end <| X_block ?_
    exact X_join [(7, pt b7), (9, nt (unvE s z.who z.ref))] rfl ⟨unvE s z.who z.ref, (unvS s z.who z.ref now), cs, F150, G, (fun h9 => ⟨unvS_err h9, rfl⟩), ho151, (fun q hq => by have h1 := own155 q hq; have h2 := lt154 q hq; omega), rel157, dis159, dis160, hl, (fun q hq => by have h1 := hoG q hq; have h2 := ltG q hq; omega), rel71, hpl.gh, hpl.gi, (fun q h1 h2 => dis158 q h2 h1), hk69, rfl⟩
   refine Vn [5, 7, 9, 40, 99] <| Vi (z.k = 5) (fun hc161 => ?_) (fun hc161 => ?_)
   ·
    refine Vd1 (acts [18]) none_ [0, 1, 2, 3, 4, 5, 6, 7, 8, 9, 10, 11, 12, 13, 14, 15, 16, 17, 18, 19] fun w163 hk162 he164 K167 _ => ?_
    replace hb1 := hb1.k0 hk162
    replace hb := hb.k0 hk162
    replace hv := hv.keep hk162 nk
    replace hl := hl.keep hk162 nk
    replace hk69 := hk69.tn hk162
    have qhb1 := hb1
    have qhb := hb
    refine Gn [3, 4, 5, 6, 7, 8, 9, 10, 11, 12, 13, 14, 15, 16, 17, 18, 19] [5, 7, 103] <| Mr 1 (pt v) qhb <| Gn [7, 8, 9, 10, 11, 12, 13, 14, 15, 16, 17, 18, 19] [5, 7, 104, 107] <| Mr 0 (pt l) qhb <| Gn [9, 10, 11, 12, 13, 14, 15, 16, 17, 18, 19] [5, 7, 104, 108, 109] <| Mr 1 (nt z.who) qhb1 <| Gn [11, 12, 13, 14, 15, 16, 17, 18, 19] [5, 7, 104, 108, 110, 111] <| Mr 3 (nt z.tr) qhb1 <| Gn [13, 14, 15, 16, 17, 18, 19] [5, 7, 104, 108, 110, 112, 113] <| Mr 5 (nt z.to) qhb1 <| Gn [15, 16, 17, 18, 19] [5, 7, 104, 108, 110, 112, 114, 115] <| Mr 6 (nt z.lv) qhb1 <| Gn [17, 18, 19] [7, 104, 108, 110, 112, 114, 116, 117] <| Mr 7 (nt z.n) qhb1 <| Jg (delegate_spec F G v l s xs cs z.who z.tr z.to z.lv z.n _ hv hl hpl.fg (by omega)) ?_
    rintro _ w168 ⟨rfl, ⟨F170, F173, ho171, ho174, hfr172, hfr175, hdis176⟩, hk169⟩
    refine ⟨_, rfl, ?_⟩
    have hsz177 := Keep.size hk169
    replace hk69 := Keep.fresh hk69 hk169 (fun i hi hs => by rcases hs with hs | hs; (rcases rel70 i hs with h | h; exact .inl h; (exfalso; omega)); (rcases rel71 i hs with h | h; exact .inr h; (exfalso; omega)))
    have own179 : ∀ q, F170 q → w.heap.size ≤ q ∧ q ≠ b1 ∧ q ≠ b7 := fun q hq => by rcases hfr172 q hq with h | h; (have h1 := hoF q h; have h2 := ltF q h; omega); omega
    have lt178 := VotT.lt ho171
    have rel180 : ∀ q, F170 q → B8 q ∨ w5.heap.size ≤ q := fun q hq => by rcases hfr172 q hq with h | h; exact hrF52 q h; exact .inr (by omega)
    have rel181 : ∀ q, F170 q → F q ∨ w47.heap.size ≤ q := fun q hq => by rcases hfr172 q hq with h | h; exact rel70 q h; exact .inr (by omega)
    have dis182 : ∀ q, F170 q → ¬ H q := fun q h1 h2 => by rcases hfr172 q h1 with h | h; exact hpl.fh q h h2; (have h4 := ltH q h2; omega)
    have dis183 : ∀ q, F170 q → ¬ I q := fun q h1 h2 => by rcases hfr172 q h1 with h | h; exact hpl.fi q h h2; (have h4 := ltI q h2; omega)
    have own185 : ∀ q, F173 q → w.heap.size ≤ q ∧ q ≠ b1 ∧ q ≠ b7 := fun q hq => by rcases hfr175 q hq with h | h; (have h1 := hoG q h; have h2 := ltG q h; omega); omega
    have lt184 := Led.lt ho174
    have rel186 : ∀ q, F173 q → B8 q ∨ w5.heap.size ≤ q := fun q hq => by rcases hfr175 q hq with h | h; exact hrG53 q h; exact .inr (by omega)
    have rel187 : ∀ q, F173 q → G q ∨ w47.heap.size ≤ q := fun q hq => by rcases hfr175 q hq with h | h; exact rel71 q h; exact .inr (by omega)
    have dis188 : ∀ q, F173 q → ¬ H q := fun q h1 h2 => by rcases hfr175 q h1 with h | h; exact hpl.gh q h h2; (have h4 := ltH q h2; omega)
    have dis189 : ∀ q, F173 q → ¬ I q := fun q h1 h2 => by rcases hfr175 q h1 with h | h; exact hpl.gi q h h2; (have h4 := ltI q h2; omega)
    refine Gs [] [(7, pt b7), (9, nt (delE xs s z.who z.tr z.to z.lv z.n))] <| GI_end <| X_block ?_
    exact X_join [(7, pt b7), (9, nt (delE xs s z.who z.tr z.to z.lv z.n))] rfl ⟨delE xs s z.who z.tr z.to z.lv z.n, (delS xs s z.who z.tr z.to z.lv z.n), (delC2 xs cs s z.who z.tr z.to z.lv z.n), F170, F173, (fun h9 => ⟨delS_err h9, delC2_err h9⟩), ho171, (fun q hq => by have h1 := own179 q hq; have h2 := lt178 q hq; omega), rel181, dis182, dis183, ho174, (fun q hq => by have h1 := own185 q hq; have h2 := lt184 q hq; omega), rel187, dis188, dis189, (fun q h1 h2 => hdis176 q h2 h1), hk69, rfl⟩
   refine Vn [5, 7, 9, 40, 120] <| Vi (z.k = 6) (fun hc190 => ?_) (fun hc190 => ?_)
   ·
    refine Vd1 (acts [12]) none_ [0, 1, 2, 3, 4, 5, 6, 7, 8, 9, 10, 11, 12, 13] fun w192 hk191 he193 K196 _ => ?_
    replace hb1 := hb1.k0 hk191
    replace hb := hb.k0 hk191
    replace hv := hv.keep hk191 nk
    replace hl := hl.keep hk191 nk
    replace hk69 := hk69.tn hk191
    have qhb1 := hb1
    have qhb := hb
    refine Gn [3, 4, 5, 6, 7, 8, 9, 10, 11, 12, 13] [5, 7, 124] <| Mr 1 (pt v) qhb <| Gn [5, 6, 7, 8, 9, 10, 11, 12, 13] [5, 7, 125, 126] <| Mr 1 (nt z.who) qhb1 <| Gn [7, 8, 9, 10, 11, 12, 13] [7, 125, 127, 128] <| Mr 3 (nt z.tr) qhb1 <| Gn [11, 12, 13] [7, 125, 127, 129, 132] <| Mr 4 (nt now) qhb <| Jg (undelegate_specT F v s z.who z.tr now _ hv) ?_
    rintro _ w197 ⟨rfl, ⟨F199, ho200, hfr201⟩, hk198⟩
    refine ⟨_, rfl, ?_⟩
    have hsz202 := Keep.size hk198
    replace hl := hl.keep hk198 (fun q hq hs => hpl.fg q hs hq)
    replace hk69 := frl hk69 hk198 rel70
    have own204 : ∀ q, F199 q → w.heap.size ≤ q ∧ q ≠ b1 ∧ q ≠ b7 := fun q hq => by rcases hfr201 q hq with h | h; (have h1 := hoF q h; have h2 := ltF q h; omega); omega
    have lt203 := VotT.lt ho200
    have rel205 : ∀ q, F199 q → B8 q ∨ w5.heap.size ≤ q := fun q hq => by rcases hfr201 q hq with h | h; exact hrF52 q h; exact .inr (by omega)
    have rel206 : ∀ q, F199 q → F q ∨ w47.heap.size ≤ q := fun q hq => by rcases hfr201 q hq with h | h; exact rel70 q h; exact .inr (by omega)
    have dis207 : ∀ q, F199 q → ¬ G q := fun q h1 h2 => by rcases hfr201 q h1 with h | h; exact hpl.fg q h h2; (have h4 := ltG q h2; omega)
    have dis208 : ∀ q, F199 q → ¬ H q := fun q h1 h2 => by rcases hfr201 q h1 with h | h; exact hpl.fh q h h2; (have h4 := ltH q h2; omega)
    have dis209 : ∀ q, F199 q → ¬ I q := fun q h1 h2 => by rcases hfr201 q h1 with h | h; exact hpl.fi q h h2; (have h4 := ltI q h2; omega)
    refine Gs [] [(7, pt b7), (9, nt (undE s z.who z.tr))] <| GI_end <| X_block ?_
    exact X_join [(7, pt b7), (9, nt (undE s z.who z.tr))] rfl ⟨undE s z.who z.tr, (undS s z.who z.tr now), cs, F199, G, (fun h9 => ⟨undS_err h9, rfl⟩), ho200, (fun q hq => by have h1 := own204 q hq; have h2 := lt203 q hq; omega), rel206, dis208, dis209, hl, (fun q hq => by have h1 := hoG q hq; have h2 := ltG q hq; omega), rel71, hpl.gh, hpl.gi, (fun q h1 h2 => dis207 q h2 h1), hk69, rfl⟩
   refine Vs [(5, pt b1), (7, pt b7), (9, nt 0), (135, .bool (decide (z.k = 7)))] <| Vi (z.k = 7) (fun hc210 => ?_) (fun hc210 => ?_)
   ·
    refine Vd1 (acts [16]) none_ [0, 1, 2, 3, 4, 5, 6, 7, 8, 9, 10, 11, 12, 13, 14, 15, 16, 17] fun w212 hk211 he213 K216 _ => ?_
    replace hb1 := hb1.k0 hk211
    replace hb := hb.k0 hk211
    replace hv := hv.keep hk211 nk
    replace hl := hl.keep hk211 nk
    replace hk69 := hk69.tn hk211
    have qhb1 := hb1
    have qhb := hb
    refine Gn [3, 4, 5, 6, 7, 8, 9, 10, 11, 12, 13, 14, 15, 16, 17] [5, 7, 139] <| Mr 1 (pt v) qhb <| Gn [7, 8, 9, 10, 11, 12, 13, 14, 15, 16, 17] [5, 7, 140, 143] <| Mr 0 (pt l) qhb <| Gn [9, 10, 11, 12, 13, 14, 15, 16, 17] [5, 7, 140, 144, 145] <| Mr 1 (nt z.who) qhb1 <| Gn [11, 12, 13, 14, 15, 16, 17] [7, 140, 144, 146, 147] <| Mr 3 (nt z.tr) qhb1 <| Gn [15, 16, 17] [7, 140, 144, 146, 148, 151] <| Mr 4 (nt now) qhb <| Jg (unlock_spec F G v l s xs cs z.who z.tr now _ hv hl hpl.fg (by omega)) ?_
    rintro _ w217 ⟨rfl, ⟨F219, F222, ho220, ho223, hfr221, hfr224, hdis225⟩, hk218⟩
    refine ⟨_, rfl, ?_⟩
    have hsz226 := Keep.size hk218
    replace hk69 := Keep.fresh hk69 hk218 (fun i hi hs => by rcases hs with hs | hs; (rcases rel70 i hs with h | h; exact .inl h; (exfalso; omega)); (rcases rel71 i hs with h | h; exact .inr h; (exfalso; omega)))
    have own228 : ∀ q, F219 q → w.heap.size ≤ q ∧ q ≠ b1 ∧ q ≠ b7 := fun q hq => by rcases hfr221 q hq with h | h; (have h1 := hoF q h; have h2 := ltF q h; omega); omega
    have lt227 := VotT.lt ho220
    have rel229 : ∀ q, F219 q → B8 q ∨ w5.heap.size ≤ q := fun q hq => by rcases hfr221 q hq with h | h; exact hrF52 q h; exact .inr (by omega)
    have rel230 : ∀ q, F219 q → F q ∨ w47.heap.size ≤ q := fun q hq => by rcases hfr221 q hq with h | h; exact rel70 q h; exact .inr (by omega)
    have dis231 : ∀ q, F219 q → ¬ H q := fun q h1 h2 => by rcases hfr221 q h1 with h | h; exact hpl.fh q h h2; (have h4 := ltH q h2; omega)
    have dis232 : ∀ q, F219 q → ¬ I q := fun q h1 h2 => by rcases hfr221 q h1 with h | h; exact hpl.fi q h h2; (have h4 := ltI q h2; omega)
    have own234 : ∀ q, F222 q → w.heap.size ≤ q ∧ q ≠ b1 ∧ q ≠ b7 := fun q hq => by rcases hfr224 q hq with h | h; (have h1 := hoG q h; have h2 := ltG q h; omega); omega
    have lt233 := Led.lt ho223
    have rel235 : ∀ q, F222 q → B8 q ∨ w5.heap.size ≤ q := fun q hq => by rcases hfr224 q hq with h | h; exact hrG53 q h; exact .inr (by omega)
    have rel236 : ∀ q, F222 q → G q ∨ w47.heap.size ≤ q := fun q hq => by rcases hfr224 q hq with h | h; exact rel71 q h; exact .inr (by omega)
    have dis237 : ∀ q, F222 q → ¬ H q := fun q h1 h2 => by rcases hfr224 q h1 with h | h; exact hpl.gh q h h2; (have h4 := ltH q h2; omega)
    have dis238 : ∀ q, F222 q → ¬ I q := fun q h1 h2 => by rcases hfr224 q h1 with h | h; exact hpl.gi q h h2; (have h4 := ltI q h2; omega)
    refine Gs [] [(7, pt b7), (9, nt (unlE z.who z.tr))] <| GI_end <| X_block ?_
    exact X_join [(7, pt b7), (9, nt (unlE z.who z.tr))] rfl ⟨unlE z.who z.tr, (unlS s z.who z.tr now), (unlC cs s z.who z.tr now), F219, F222, (fun h9 => ⟨unlS_err h9, unlC_err h9⟩), ho220, (fun q hq => by have h1 := own228 q hq; have h2 := lt227 q hq; omega), rel230, dis231, dis232, ho223, (fun q hq => by have h1 := own234 q hq; have h2 := lt233 q hq; omega), rel236, dis237, dis238, (fun q h1 h2 => hdis225 q h2 h1), hk69, rfl⟩
   refine V_skip <| X_block ?_
   exact X_join [(7, pt b7), (9, nt 0)] rfl ⟨0, s, cs, F, G, (fun h9 => absurd rfl h9), hv, (fun q hq => by have h1 := hoF q hq; have h2 := ltF q hq; omega), rel70, hpl.fh, hpl.fi, hl, (fun q hq => by have h1 := hoG q hq; have h2 := ltG q hq; omega), rel71, hpl.gh, hpl.gi, (fun q h1 h2 => hpl.fg q h2 h1), hk69, rfl⟩
  ·
   rintro w239 _ ⟨E9, s9, C9, F56, F60, hE9, ho57, own58, rel59, dis64, dis65, ho61, own62, rel63, dis66, dis67, dis68, hk240, rfl⟩
   have hsz241 := Keep.size hk240
   replace hb := hb.keep hk240 (fun hs => by rcases hs with hs | hs; (have h1 := hoF _ hs; have h2 := ltF _ hs; omega); (have h1 := hoG _ hs; have h2 := ltG _ hs; omega))
   replace hK0 := Keep.fresh hK0 hk240 (by intro i hi hs; rcases hs with hs | hs; (have h1 := hoF i hs; have h2 := ltF i hs; omega); (have h1 := hoG i hs; have h2 := ltG i hs; omega))
   replace hx := DLd.keep hx hk240 (fun q hq hs => by rcases hs with hs | hs; exact hpl.fh q hs hq; exact hpl.gh q hs hq)
   replace hy := DVt.keep hy hk240 (fun q hq hs => by rcases hs with hs | hs; exact hpl.fi q hs hq; exact hpl.gi q hs hq)
   have lt242 := VotT.lt ho57
   have rel243 : ∀ q, F56 q → B8 q ∨ w5.heap.size ≤ q := fun q hq => by rcases rel59 q hq with h | h; exact hrF52 q h; exact .inr (by omega)
   have hvlt : v < w239.heap.size := VotT.lt ho57 _ (VotT.at_ ho57)
   have lt244 := Led.lt ho61
   have rel245 : ∀ q, F60 q → B8 q ∨ w5.heap.size ≤ q := fun q hq => by rcases rel63 q hq with h | h; exact hrG53 q h; exact .inr (by omega)
   have hllt : l < w239.heap.size := Led.lt ho61 _ (Led.at_ ho61)
   refine X_then <| Vr <| Os 3 [(7, pt b7), (156, .bool (decide (E9 = 0)))] ?_
   by_cases hg246 : E9 = 0
   ·
    refine Dt 156 hg246 <| On 7 [160] <| Kk (known_spec _) fun w247 hk248 _ => ?_
    replace hK0 := hK0.tn hk248
    exact Oen [6] <| Rr (.bool true) ⟨rfl, hK0⟩
   have he250 := hE9 hg246
   rw [he250.1] at ho57
   rw [he250.2] at ho61
   obtain ⟨B251, hBo251, hbr251_0, hp251⟩ : ∃ B9 : Nat → Prop, (∀ q, B9 q → w.heap.size ≤ q ∧ q ≠ b1) ∧ (∀ q, B9 q → B8 q ∨ w5.heap.size ≤ q) ∧ Pl B9 w239 b7 s xs cs now := ⟨fun q => q = b7 ∨ F56 q ∨ F60 q ∨ H q ∨ I q, fun q hq => by rcases hq with h | h | h | h | h; omega; (have h1 := own58 q h; omega); (have h1 := own62 q h; omega); (have h1 := hoH q h; omega); (have h1 := hoI q h; omega), (fun q hq => by rcases hq with h | h | h | h | h; (rw [h]; exact hrb51); exact rel243 q h; exact rel245 q h; exact hrH54 q h; exact hrI55 q h), fun q hq => by rcases hq with h | h | h | h | h; omega; (have h1 := lt242 q h; omega); (have h1 := lt244 q h; omega); (have h1 := ltH q h; omega); (have h1 := ltI q h; omega), .inl rfl, F56, F60, H, I, v, l, x, y, ⟨hb, ho57, ho61, hx, hy, fun q hq => ⟨.inr (.inl hq), by have h1 := own58 q hq; have h2 := lt242 q hq; omega⟩, fun q hq => ⟨.inr (.inr (.inl hq)), by have h1 := own62 q hq; have h2 := lt244 q hq; omega⟩, fun q hq => ⟨.inr (.inr (.inr (.inl hq))), by have h1 := hoH q hq; have h2 := ltH q hq; omega⟩, fun q hq => ⟨.inr (.inr (.inr (.inr hq))), by have h1 := hoI q hq; have h2 := ltI q hq; omega⟩, (fun q h1 h2 => dis68 q h2 h1), dis64, dis65, dis66, dis67, hpl.hi⟩⟩
   have ltp251 := Pl.lt hp251
   refine OI_eq [(7, pt b7), (156, .bool false)] (by first | simp [hg246] | rfl) <| On 4 [156, 157] <| Kg (alike_pl B251 b7 s xs cs now _ hp251) ?_
   rintro _ w254 ⟨rfl, ⟨F256, ho257, hfr258⟩, hk255⟩
   refine ⟨_, rfl, ?_⟩
   have hsz259 := Keep.size hk255
   replace hK0 := Keep.fresh hK0 hk255 (by intro i hi hs; first | exact hs | (exfalso; have h1 := hBo251 i hs; have h2 := ltp251 i hs; omega) | (have h1 := hBo251 i hs; have h2 := ltp251 i hs; show _ ∨ _; omega))
   have own261 : ∀ q, F256 q → w.heap.size ≤ q ∧ q ≠ b1 := fun q hq => by rcases hfr258 q hq with h | h; (have h1 := hBo251 q h; have h2 := ltp251 q h; omega); omega
   have lt260 := Pl.lt ho257
   have rel262 : ∀ q, F256 q → B8 q ∨ w5.heap.size ≤ q := fun q hq => by rcases hfr258 q hq with h | h; exact hbr251_0 q h; exact .inr (by omega)
   refine On 7 [160] <| Kk (known_spec _) fun w263 hk264 _ => ?_
   replace hK0 := hK0.tn hk264
   exact Oen [6] <| Rr (.bool true) ⟨rfl, hK0⟩
theorem over_VotingErrs {H : Type} {enc : TypeId × Value → H} {A L : Option Addr} {len cap lenl capl : Nat} {d dl : DataW H} {ps pl : List MemPlace} {w : World} (h : DataW.Trod enc Tryz.prog w 0 (fun _ => true) true 28 (.slice A len cap) d ps) (hl : DataW.Trod enc Tryz.prog w 0 (fun _ => true) true 70 (.slice L lenl capl) dl pl) {cz : Array Value} {dz : DataW H} {pz : List MemPlace} (hz : DataW.Trod enc Tryz.prog w 0 (fun _ => true) true 60 (.agg cz) dz pz) : Calls Tryz.prog 12 #[.slice A len cap, .slice L lenl capl, .agg cz] w (rk_ w (.bool true)) := by
  obtain ⟨fs, rfl, hA, hl1, hc⟩ := read_elems (f := intc) (ks := [.int .i64]) (n := 1) (sz := 1) lift_int Tryz.underlying28 (by kernel_rfl) (by kernel_rfl) rfl (by decide) h
  obtain ⟨ac, rfl, hL, hl2, hcl⟩ := read_elems (f := Av.cells) (ks := ksA) (n := 5) (sz := 14) lift_av Tryz.underlying70 (by kernel_rfl) (by kernel_rfl) rfl (by decide) hl
  obtain ⟨z, hz⟩ := lift_av _ (read_agg (n := 5) (ks := ksA) (by kernel_rfl) hz)
  obtain rfl : cz = z.cells.toArray := by rw [hz]
  exact walk_VotingErrs A L cap capl fs ac z w hA hL (by unfold maxLen at hc; omega) (by unfold maxLen at hcl; omega)
end Go.Al
