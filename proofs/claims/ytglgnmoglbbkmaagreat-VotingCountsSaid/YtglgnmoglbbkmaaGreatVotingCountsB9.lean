/-
  Put together out of 1 texts: The laws of voting: what is counted: the walk.
-/
import Derived.Test.YtglgnmoglbbkmaaGreatVotingCountsB8
open Go.IntKind (i64)
set_option maxRecDepth 10000
namespace Go.Al
open Go Go.RowKit Go.Proofs
theorem dst_1 {n : Int} (h : dst n = 1) (h1 : n ≠ 1) : n = 0 := by
  unfold dst at h
  split at h
  · assumption
  · exact absurd h h1
set_option maxHeartbeats 4000000 in
theorem walk_VotingCounts (A L : Option Addr) (cap capl : Nat) (fs : List Int) (ac : List Av) (w : World) (hA0 : ArgT w 1 intc A cap fs) (hL0 : ArgT w 14 Av.cells L capl ac) (hcap : fs.length ≤ 9223372036854775807) (hcapl : ac.length ≤ 9223372036854775807) : Calls Tryz.prog 9 #[.slice A fs.length cap, .slice L ac.length capl] w (rk_ w (.bool true)) := by
 have hA := hA0
 have hL := hL0
 have hK0 := Keep.refl none_ w
 refine eV ?_
 refine Vr <| On 1 [0, 1] <| Oe <| V_seq <| Vr <| On 4 [0, 1, 13] ?_
 by_cases hg1 : (ac.length : Int) > 10000
 ·
  exact Dt 13 hg1 <| Oen [0, 1, 17] <| Vo <| Vn [4] <| Rt <| Xr (.bool true) ⟨rfl, hK0⟩
 refine Df 13 hg1 <| Oen [0, 1, 17] <| Vi ((fs.length : Int) > 1000) (fun hc2 => ?_) (fun hc2 => ?_)
 ·
  exact Vn [4] <| Rt <| Xr (.bool true) ⟨rfl, hK0⟩
 refine Vsk <| Vr <| On 1 [1, 18] <| Kg (begin_pl A cap fs _ hA (by omega)) ?_
 rintro _ w7 ⟨b9, B10, rfl, ho11, hk8, hge12⟩
 refine ⟨_, rfl, ?_⟩
 have hsz13 := Keep.size hk8
 replace hL := ArgT.keep0 hL hk8
 replace hK0 := hK0.tn hk8
 have own14 : ∀ q, B10 q → w.heap.size ≤ q := fun q hq => by have h1 := hge12 q hq; omega
 have lt15 := Pl.lt ho11
 have hb9lt : b9 < w7.heap.size := Pl.lt ho11 _ (Pl.at_ ho11)
 refine On 3 [1, 5] <| Oe <| V_seq <| Vn [1, 5, 21] <| Vf <| Vsk <| V_seq <| Vn [1, 5, 6] <| V_block ?_
 have hvi := Pl.di ho11
 refine Vp [(1, .slice L ac.length capl),(5, pt b9),(6, nt 0)] <| V_loop (fun k wI e => ∃ i : Nat, ∃ s : VS, ∃ xs : List Acc, ∃ cs : List Ci, ∃ now : Int, ∃ F16 : Nat → Prop, (k + i = min ac.length 80) ∧ (i ≤ 80) ∧ (cs.length ≤ i) ∧ (CInv s) ∧ (Pl F16 wI b9 s xs cs now) ∧ (∀ q, F16 q → w.heap.size ≤ q) ∧ (∀ q, F16 q → B10 q ∨ w7.heap.size ≤ q) ∧ Keep B10 w7 wI ∧ e = [(1, .slice L ac.length capl),(5, pt b9),(6, nt (i : Int))]) (min ac.length 80) ⟨0, VS.zero, (newX (msk24 (fs.take 10)) 10), [], 0, B10, by omega, by omega, by simp, cv_new, ho11, (fun q hq => by have h1 := own14 q hq; have h2 := lt15 q hq; omega), fun q h => .inl h, Keep.refl _ _, rfl⟩ ?_
 rintro k21 w20 _ ⟨i, s, xs, cs, now, F16, hki, hi9, hcl, hh, ho17, own18, rel19, hk22, rfl⟩
 have hsz23 := Keep.size hk22
 replace hL := ArgT.keep hL hk22 hL0 (fun k hk hs => by have h1 := own14 k hs; have h2 := lt15 k hs; omega)
 replace hK0 := Keep.fresh hK0 hk22 (by intro i hi hs; have h1 := own14 i hs; have h2 := lt15 i hs; omega)
 have hzhk22 := Keep.size hk22
 have lt24 := Pl.lt ho17
 have hb9lt : b9 < w20.heap.size := Pl.lt ho17 _ (Pl.at_ ho17)
 have hvi := Pl.di ho17
 refine V_seq <| Vr <| On 5 [1, 5, 6, 26] ?_
 by_cases hg25 : (i : Int) < (ac.length : Int)
 ·
  refine Dt 26 hg25 <| Oen [1, 5, 6, 27, 28, 29] <| Vi ((i : Int) < 80) (fun hc26 => ?_) (fun hc26 => ?_)
  ·
   refine Vsk <| V_seq <| V_block <| Vr <| On 3 [1, 5, 6, 27, 28, 32, 33, 34] ?_
   obtain ⟨b27, o27, L27, rfl, hat27⟩ := ArgT.open_ hL (by first | omega | (simp only [List.length_map]; omega) | (simp; done) | (simp; omega))
   have hb27lt0 := ArgT.lt hL0 (by first | omega | (simp only [List.length_map]; omega) | (simp; done) | (simp; omega))
   have hb27lt := hat27.blk.lt
   refine Oi (b := b27) (o := o27) (len := ac.length) (cap := capl) (j := i) (some 35) 70 (.tmp 33) (.tmp 34) 60 14 112 .i64 ?_
   obtain ⟨x28, hx29⟩ := exAt (xs := ac) (i := i)
   refine OI_aggR 60 (.tmp 35) (o27 + i * 14) (Av.cells x28) (some 36) (by kernel_rfl) (by kernel_rfl) hat27.blk (m := 14) (by kernel_rfl) (AtR.elem' hat27 _ _ (es_at hx29)) (AtR.len hat27 (es_at hx29)) <| Kg (act_pl F16 b9 s xs cs now x28 _ ho17 (by omega)) ?_
   rintro _ w36 ⟨rfl, ⟨F38, ho39, hfr40⟩, hk37⟩
   refine ⟨_, rfl, ?_⟩
   have hsz41 := Keep.size hk37
   replace hk22 := frr hk22 hk37 rel19
   have own43 : ∀ q, F38 q → w.heap.size ≤ q := fun q hq => by rcases hfr40 q hq with h | h; (have h1 := own18 q h; have h2 := lt24 q h; omega); omega
   have lt42 := Pl.lt ho39
   have rel44 : ∀ q, F38 q → B10 q ∨ w7.heap.size ≤ q := fun q hq => by rcases hfr40 q hq with h | h; exact rel19 q h; exact .inr (by omega)
   obtain ⟨s1, xs1, cs1, now1, ho1, hh1, hcl1⟩ : ∃ s1 xs1 cs1 now1, Pl F38 w36 b9 s1 xs1 cs1 now1 ∧ CInv s1 ∧ cs1.length ≤ i + 1 := ⟨_, _, _, _, ho39, cv_act hh hvi.1 x28, Nat.le_trans (actC_len _ _ _ _ _) (by omega)⟩
   have hvi1 := Pl.di ho1
   have hBw : w.heap.size ≤ b9 := by have h1 := own43 _ (Pl.at_ ho1); omega
   have hrb45 : B10 b9 ∨ w7.heap.size ≤ b9 := rel44 _ (Pl.at_ ho1)
   obtain ⟨_, hBb, F, G, H, I, v, l, x, y, hpl⟩ := ho1
   have hb := hpl.blk
   have hb9lt := hb.lt
   have hv := hpl.hv
   have hoF : ∀ q, F q → w.heap.size ≤ q ∧ q ≠ b9 := fun q hq => by have h1 := own43 q (hpl.inF q hq).1; have h2 := (hpl.inF q hq).2; omega
   have ltF := VotT.lt hv
   have hvlt := ltF _ (VotT.at_ hv)
   have hvb := hoF _ (VotT.at_ hv)
   have hrF46 : ∀ q, F q → B10 q ∨ w7.heap.size ≤ q := fun q hq => rel44 q (hpl.inF q hq).1
   have hl := hpl.hl
   have hoG : ∀ q, G q → w.heap.size ≤ q ∧ q ≠ b9 := fun q hq => by have h1 := own43 q (hpl.inG q hq).1; have h2 := (hpl.inG q hq).2; omega
   have ltG := Led.lt hl
   have hllt := ltG _ (Led.at_ hl)
   have hlb := hoG _ (Led.at_ hl)
   have hrG47 : ∀ q, G q → B10 q ∨ w7.heap.size ≤ q := fun q hq => rel44 q (hpl.inG q hq).1
   have hx := hpl.hx
   have hoH : ∀ q, H q → w.heap.size ≤ q ∧ q ≠ b9 := fun q hq => by have h1 := own43 q (hpl.inH q hq).1; have h2 := (hpl.inH q hq).2; omega
   have ltH := DLd.lt hx
   have hxlt := ltH _ (DLd.at_ hx)
   have hxb := hoH _ (DLd.at_ hx)
   have hrH48 : ∀ q, H q → B10 q ∨ w7.heap.size ≤ q := fun q hq => rel44 q (hpl.inH q hq).1
   have hy := hpl.hy
   have hoI : ∀ q, I q → w.heap.size ≤ q ∧ q ≠ b9 := fun q hq => by have h1 := own43 q (hpl.inI q hq).1; have h2 := (hpl.inI q hq).2; omega
   have ltI := DVt.lt hy
   have hylt := ltI _ (DVt.at_ hy)
   have hyb := hoI _ (DVt.at_ hy)
   have hrI49 : ∀ q, I q → B10 q ∨ w7.heap.size ≤ q := fun q hq => rel44 q (hpl.inI q hq).1
   refine Oer <| Oen [1, 5, 6, 7, 27, 28] <| V_block <| Vp [(1, sl_ b27 o27 ac.length capl),(5, pt b9),(6, nt (i : Int)),(7, nt 0),(27, nt (i : Int)),(28, .bool (decide ((i : Int) < 80)))] <| V_loop (fun k wI e => ∃ r : Nat, ∃ F50 : Nat → Prop, (k + r = 12) ∧ (VotT F50 wI v s1) ∧ (∀ q, F50 q → w.heap.size ≤ q ∧ q ≠ b9) ∧ (∀ q, F50 q → F q ∨ w36.heap.size ≤ q) ∧ (∀ q, F50 q → ¬ G q) ∧ (∀ q, F50 q → ¬ H q) ∧ (∀ q, F50 q → ¬ I q) ∧ Keep F w36 wI ∧ e = [(1, sl_ b27 o27 ac.length capl),(5, pt b9),(6, nt (i : Int)),(7, nt (r : Int)),(27, nt (i : Int)),(28, .bool (decide ((i : Int) < 80)))]) 12 ⟨0, F, by omega, hv, (fun q hq => by have h1 := hoF q hq; have h2 := ltF q hq; omega), fun q h => .inl h, hpl.fg, hpl.fh, hpl.fi, Keep.refl _ _, rfl⟩ ?_
   rintro k58 w57 _ ⟨r, F50, hkr, ho51, own52, rel53, dis54, dis55, dis56, hk59, rfl⟩
   have hsz60 := Keep.size hk59
   replace hb := hb.keep hk59 (fun hs => by have h1 := hoF _ hs; have h2 := ltF _ hs; omega)
   replace hk22 := frr hk22 hk59 hrF46
   replace hl := hl.keep hk59 (fun q hq hs => hpl.fg q hs hq)
   replace hx := DLd.keep hx hk59 (fun q hq hs => hpl.fh q hs hq)
   replace hy := DVt.keep hy hk59 (fun q hq hs => hpl.fi q hs hq)
   have hzhk59 := Keep.size hk59
   have lt61 := VotT.lt ho51
   have rel62 : ∀ q, F50 q → B10 q ∨ w7.heap.size ≤ q := fun q hq => by rcases rel53 q hq with h | h; exact hrF46 q h; exact .inr (by omega)
   have hvlt : v < w57.heap.size := VotT.lt ho51 _ (VotT.at_ ho51)
   have hcy := hy
   obtain ⟨_, _, bP, oP, cP, bR, oR, cR, rs, hdv⟩ := hcy
   obtain ⟨LP, TP, hP⟩ := hdv.pl
   have hyb := hdv.blk
   have hbPlt := hP.blk.lt
   have hpl9 : s1.ps.length = 12 := hvi1.1.inv.len
   refine V_seq <| Vn [1, 5, 6, 7, 27, 28, 39] <| Vi ((r : Int) < 12) (fun hc63 => ?_) (fun hc63 => ?_)
   ·
    refine Vsk <| V_seq <| V_block <| V_seq <| Vr <| On 3 [1, 5, 6, 7, 27, 28, 44] <| Lr 3 (pt y) hb <| On 5 [1, 5, 6, 7, 27, 28, 45, 46] <| Kk (dhas_spec I y s1 (r : Int) _ hy) fun w64 hk65 _ => ?_
    replace hb := hb.k0 hk65
    replace hyb := hyb.k0 hk65
    replace hP := hP.k0 hk65
    replace hk59 := hk59.tn hk65
    replace ho51 := ho51.keep hk65 nk
    refine Os 8 [(1, sl_ b27 o27 ac.length capl),(5, pt b9),(6, nt (i : Int)),(7, nt (r : Int)),(27, nt (i : Int)),(28, .bool (decide ((i : Int) < 80))),(49, .bool (!((pollAt s1 (r : Int)).isSome)))] ?_
    cases hg67 : (!((pollAt s1 (r : Int)).isSome))
    ·
     obtain ⟨⟨tk, tl, sta, stp⟩, hq⟩ := Option.isSome_iff_exists.1 (show (pollAt s1 (r : Int)).isSome = true by simpa using hg67)
     have hqi : s1.ps[r]? = some (some (PollS.mk tk tl sta stp)) := by obtain ⟨i9, e9, _, h9⟩ := pollAt_some hq; rw [show r = i9 by omega]; exact h9
     refine OI_eq [(1, sl_ b27 o27 ac.length capl),(5, pt b9),(6, nt (i : Int)),(7, nt (r : Int)),(27, nt (i : Int)),(28, .bool (decide ((i : Int) < 80))),(49, .bool false)] (by first | rfl | rw [hg67]) <| On 11 [1, 5, 6, 7, 27, 28, 49, 50, 51, 52] <| Lr 3 (pt y) hb <| On 14 [1, 5, 6, 7, 27, 28, 49, 50, 51, 52, 53, 54, 55] <| Lr 0 (sl_ bP oP 12 cP) hyb <| On 16 [1, 5, 6, 7, 27, 28, 49, 50, 51, 52, 53, 54, 55, 56, 57] <| Oi (b := bP) (o := oP) (len := 12) (cap := cP) (j := r) (some 58) 74 (.tmp 56) (.tmp 57) 73 7 56 .i64 <| On 18 [1, 5, 6, 7, 27, 28, 49, 50, 51, 52, 53, 54, 55, 56, 57, 58, 59] <| Lc (oP + r * 7 + 2) (nt (dst sta)) hP.blk (At.cell hP (es_at hqi) rfl) <| Ose [(1, sl_ b27 o27 ac.length capl),(5, pt b9),(6, nt (i : Int)),(7, nt (r : Int)),(27, nt (i : Int)),(28, .bool (decide ((i : Int) < 80))),(50, pt b9),(51, pt b9),(52, po_ b9 3),(53, pt y),(54, pt y),(55, pt y),(56, sl_ bP oP 12 cP),(57, nt (r : Int)),(58, .pointer (some ⟨bP, oP + r * 7, none⟩)),(59, .pointer (some ⟨bP, oP + r * 7 + 2, none⟩)),(60, nt (dst sta)),(61, .bool (!(decide (dst sta = 1)))),(62, .bool (!(decide (dst sta = 1))))] <| V_not (dst sta = 1) (by kernel_rfl) (fun hc68 => ?_) (fun hc68 => ?_)
     ·
      refine V_exit <| X_exit_then <| X_exit_here <| X_then <| V_region ?_
      have hw69 : i64.wrap ((r : Int) + 1) = ((r + 1 : Nat) : Int) := wrp
      refine On 2 [1, 5, 6, 27, 28, 41, 50, 51, 52, 53, 54, 55, 56, 57, 58, 59, 60, 61] <| Oq (u := nt (i64.wrap ((r : Int) + 1))) (v := nt ((r + 1 : Nat) : Int)) 41 (by rw [hw69]) <| Os 3 [(1, sl_ b27 o27 ac.length capl),(5, pt b9),(6, nt (i : Int)),(7, nt ((r + 1 : Nat) : Int)),(27, nt (i : Int)),(28, .bool (decide ((i : Int) < 80))),(50, pt b9),(51, pt b9),(52, po_ b9 3),(53, pt y),(54, pt y),(55, pt y),(56, sl_ bP oP 12 cP),(57, nt (r : Int)),(58, .pointer (some ⟨bP, oP + r * 7, none⟩)),(59, .pointer (some ⟨bP, oP + r * 7 + 2, none⟩)),(60, nt (dst sta)),(61, .bool (!(decide (dst sta = 1))))] <| OI_end rfl ?_
      exact V_again (k58 - 1) (by omega) [(1, sl_ b27 o27 ac.length capl),(5, pt b9),(6, nt (i : Int)),(7, nt ((r + 1 : Nat) : Int)),(27, nt (i : Int)),(28, .bool (decide ((i : Int) < 80)))] rfl ⟨r + 1, F50, by omega, ho51, (fun q hq => by have h1 := own52 q hq; have h2 := lt61 q hq; omega), rel53, dis54, dis55, dis56, hk59, rfl⟩
     have hs0 : sta = 0 := dst_1 hc68 (hvi1.1.st _ _ hqi)
     refine Vsk <| V_seqJ (fun wI e => ∃ b8 : Nat, ∃ F70 : Nat → Prop, (Blk wI b8 (Tly.cells (tallyT s1 (r : Int))) 43) ∧ (VotT F70 wI v s1) ∧ (∀ q, F70 q → w.heap.size ≤ q ∧ q ≠ b9) ∧ (∀ q, F70 q → F50 q ∨ w64.heap.size ≤ q) ∧ (∀ q, F70 q → ¬ G q) ∧ (∀ q, F70 q → ¬ H q) ∧ (∀ q, F70 q → ¬ I q) ∧ Keep F50 w64 wI ∧ e = [(1, sl_ b27 o27 ac.length capl),(5, pt b9),(6, nt (i : Int)),(7, nt (r : Int)),(8, pt b8),(9, .bool true),(27, nt (i : Int)),(28, .bool (decide ((i : Int) < 80))),(50, pt b9),(51, pt b9),(52, po_ b9 3),(53, pt y),(54, pt y),(55, pt y),(56, sl_ bP oP 12 cP),(57, nt (r : Int)),(58, .pointer (some ⟨bP, oP + r * 7, none⟩)),(59, .pointer (some ⟨bP, oP + r * 7 + 2, none⟩)),(60, nt (dst sta)),(61, .bool (!(decide (dst sta = 1))))]) ?_ ?_
     ·
      have hk77 : Keep F50 w64 w64 := Keep.refl _ _
      have rel78 : ∀ q, F50 q → F50 q ∨ w64.heap.size ≤ q := fun q h => .inl h
      refine Vd (acts [16, 20, 21]) F50 [[0, 1, 2, 3, 4, 5, 6, 7, 8, 9, 10, 11, 12, 13, 14, 15, 16, 20, 17, 18, 21, 19, 22], [20, 0, 1, 2, 3, 4, 5, 6, 7, 8, 9, 10, 11, 12, 13, 14, 15, 16, 17, 18, 21, 19, 22]] ?_
      intro w80 hk79 he81 L hL82
      have hsz83 := Keep.size hk79
      replace hb := hb.k0 hk79
      replace hyb := hyb.k0 hk79
      replace hP := hP.k0 hk79
      replace ho51 := ho51.keep hk79 nk
      replace hk77 := hk77.tn hk79
      have qhb := hb
      have qhyb := hyb
      have qhP := hP
      have K84 : Keep F50 w80 w80 := Keep.refl _ _
      simp only [List.mem_cons, List.not_mem_nil, or_false] at hL82
      rcases hL82 with rfl | rfl
      ·
       refine Gn [3, 4, 5, 6, 7, 8, 9, 10, 11, 12, 13, 14, 15, 16, 20, 17, 18, 21, 19, 22] [1, 5, 6, 7, 27, 28, 50, 51, 52, 53, 54, 55, 56, 57, 58, 59, 60, 61, 66] <| Mc 1 (pt v) qhb (fun hs => by have h1 := own52 _ hs; have h2 := lt61 _ hs; omega) rfl <| Gn [8, 9, 10, 11, 12, 13, 14, 15, 16, 20, 17, 18, 21, 19, 22] [1, 5, 6, 7, 27, 28, 50, 51, 52, 53, 54, 55, 56, 57, 58, 59, 60, 61, 67, 68, 71] <| Mc 3 (pt y) qhb (fun hs => by have h1 := own52 _ hs; have h2 := lt61 _ hs; omega) rfl <| Gn [11, 12, 13, 14, 15, 16, 20, 17, 18, 21, 19, 22] [1, 5, 6, 7, 27, 28, 50, 51, 52, 53, 54, 55, 56, 57, 58, 59, 60, 61, 67, 68, 74] <| Mc 0 (sl_ bP oP 12 cP) qhyb (fun hs => (fun q h1 h2 => dis56 q h2 h1) _ hdv.own.1 hs) rfl <| Gn [13, 14, 15, 16, 20, 17, 18, 21, 19, 22] [1, 5, 6, 7, 27, 28, 50, 51, 52, 53, 54, 55, 56, 57, 58, 59, 60, 61, 67, 68, 75, 76] <| Gi (b := bP) (o := oP) (len := 12) (cap := cP) (j := r) 73 7 56 .i64 <| Gn [15, 16, 20, 17, 18, 21, 19, 22] [1, 5, 6, 7, 27, 28, 50, 51, 52, 53, 54, 55, 56, 57, 58, 59, 60, 61, 67, 68, 78] <| Mc (oP + r * 7 + 1) (nt tk) qhP.blk (fun hs => (fun q h1 h2 => dis56 q h2 h1) _ hdv.own.2.1 hs) (At.cell qhP (es_at hqi) rfl) <| Hg (recount_spec F50 v s1 r (PollS.mk tk tl sta stp) _ ho51 hh1 hvi1.1 hqi hs0 (hvi1.1.trk _ _ hqi)) ?_
       rintro _ w87 ⟨rfl, ⟨F89, ho90, hfr91⟩, hk88⟩
       have K92 := Keep.fresh K84 hk88 (by intro i hi hs; first | exact hs | (exfalso; have h1 := own52 i hs; have h2 := lt61 i hs; omega) | (have h1 := own52 i hs; have h2 := lt61 i hs; show _ ∨ _; omega))
       refine ⟨_, rfl, K92, ?_⟩
       have hzK92 := Keep.size K92
       have hsz93 := Keep.size hk88
       replace hk77 := frr hk77 hk88 rel78
       have own95 : ∀ q, F89 q → w.heap.size ≤ q ∧ q ≠ b9 := fun q hq => by rcases hfr91 q hq with h | h; (have h1 := own52 q h; have h2 := lt61 q h; omega); omega
       have lt94 := VotT.lt ho90
       have rel96 : ∀ q, F89 q → F q ∨ w36.heap.size ≤ q := fun q hq => by rcases hfr91 q hq with h | h; exact rel53 q h; exact .inr (by omega)
       have rel97 : ∀ q, F89 q → B10 q ∨ w7.heap.size ≤ q := fun q hq => by rcases hfr91 q hq with h | h; exact rel62 q h; exact .inr (by omega)
       have rel98 : ∀ q, F89 q → F50 q ∨ w64.heap.size ≤ q := fun q hq => by rcases hfr91 q hq with h | h; exact rel78 q h; exact .inr (by omega)
       have dis99 : ∀ q, F89 q → ¬ G q := fun q h1 h2 => by rcases hfr91 q h1 with h | h; exact dis54 q h h2; (have h4 := ltG q h2; omega)
       have dis100 : ∀ q, F89 q → ¬ H q := fun q h1 h2 => by rcases hfr91 q h1 with h | h; exact dis55 q h h2; (have h4 := ltH q h2; omega)
       have dis101 : ∀ q, F89 q → ¬ I q := fun q h1 h2 => by rcases hfr91 q h1 with h | h; exact dis56 q h h2; (have h4 := ltI q h2; omega)
       refine GI_alloc 43 (.agg #[nt 0, nt 0, nt 0]) [nt 0, nt 0, nt 0] (some 8) (by kernel_rfl) (by kernel_rfl) K92 (by kernel_rfl) (by kernel_rfl) ?_
       intro b102 w102 e102 hb102 k102 z102 K103
       have hsz104 := Keep.size k102
       replace hk77 := hk77.tn k102
       replace ho90 := ho90.keep k102 nk
       have hb102lt := hb102.lt
       refine Gn [21, 19, 22] [1, 5, 6, 7, 8, 27, 28, 50, 51, 52, 53, 54, 55, 56, 57, 58, 59, 60, 61, 63, 81] <| GI_set0 (m := 3) (kd := true) 43 (.tmp 8) (.tmp 81) 0 (.agg (Tly.cells (tallyT s1 (r : Int))).toArray) (Tly.cells (tallyT s1 (r : Int))) none (by kernel_rfl) (by kernel_rfl) (by kernel_rfl) (by kernel_rfl) (by kernel_rfl) hb102 (by kernel_rfl) rfl (Tly.len _) (Nat.le_of_ble_eq_true (by kernel_rfl)) (Tly.one _) ?_
       intro w105 hb102_108 hk106 hz107
       replace hb102_108 : Blk w105 b102 (Tly.cells (tallyT s1 (r : Int))) 43 := (by rwa [over_whole (by rw [Tly.len]; rfl)] at hb102_108)
       have hsz109 := Keep.size hk106
       replace hk77 := Keep.fr hk77 hk106
       replace ho90 := ho90.keep hk106 (fun q hq hs => by have hs : q = b102 := hs; have g0 := own95 q hq; have g1 := lt94 q hq; omega)
       refine Gs [] [(1, sl_ b27 o27 ac.length capl),(5, pt b9),(6, nt (i : Int)),(7, nt (r : Int)),(8, pt b102),(9, .bool true),(27, nt (i : Int)),(28, .bool (decide ((i : Int) < 80))),(50, pt b9),(51, pt b9),(52, po_ b9 3),(53, pt y),(54, pt y),(55, pt y),(56, sl_ bP oP 12 cP),(57, nt (r : Int)),(58, .pointer (some ⟨bP, oP + r * 7, none⟩)),(59, .pointer (some ⟨bP, oP + r * 7 + 2, none⟩)),(60, nt (dst sta)),(61, .bool (!(decide (dst sta = 1))))] <| GI_end ?_
       exact X_join [(1, sl_ b27 o27 ac.length capl),(5, pt b9),(6, nt (i : Int)),(7, nt (r : Int)),(8, pt b102),(9, .bool true),(27, nt (i : Int)),(28, .bool (decide ((i : Int) < 80))),(50, pt b9),(51, pt b9),(52, po_ b9 3),(53, pt y),(54, pt y),(55, pt y),(56, sl_ bP oP 12 cP),(57, nt (r : Int)),(58, .pointer (some ⟨bP, oP + r * 7, none⟩)),(59, .pointer (some ⟨bP, oP + r * 7 + 2, none⟩)),(60, nt (dst sta)),(61, .bool (!(decide (dst sta = 1))))] rfl ⟨b102, F89, hb102_108, ho90, (fun q hq => by have h1 := own95 q hq; have h2 := lt94 q hq; omega), rel98, dis99, dis100, dis101, hk77, rfl⟩
      ·
       refine GI_alloc 43 (.agg #[nt 0, nt 0, nt 0]) [nt 0, nt 0, nt 0] (some 8) (by kernel_rfl) (by kernel_rfl) K84 (by kernel_rfl) (by kernel_rfl) ?_
       intro b110 w110 e110 hb110 k110 z110 K111
       have hsz112 := Keep.size k110
       replace ho51 := ho51.keep k110 nk
       replace hk77 := hk77.tn k110
       have hb110lt := hb110.lt
       refine Gn [3, 4, 5, 6, 7, 8, 9, 10, 11, 12, 13, 14, 15, 16, 17, 18, 21, 19, 22] [1, 5, 6, 7, 8, 27, 28, 50, 51, 52, 53, 54, 55, 56, 57, 58, 59, 60, 61, 66] <| Mc 1 (pt v) qhb (fun hs => by have h1 := own52 _ hs; have h2 := lt61 _ hs; omega) rfl <| Gn [8, 9, 10, 11, 12, 13, 14, 15, 16, 17, 18, 21, 19, 22] [1, 5, 6, 7, 8, 27, 28, 50, 51, 52, 53, 54, 55, 56, 57, 58, 59, 60, 61, 67, 68, 71] <| Mc 3 (pt y) qhb (fun hs => by have h1 := own52 _ hs; have h2 := lt61 _ hs; omega) rfl <| Gn [11, 12, 13, 14, 15, 16, 17, 18, 21, 19, 22] [1, 5, 6, 7, 8, 27, 28, 50, 51, 52, 53, 54, 55, 56, 57, 58, 59, 60, 61, 67, 68, 74] <| Mc 0 (sl_ bP oP 12 cP) qhyb (fun hs => (fun q h1 h2 => dis56 q h2 h1) _ hdv.own.1 hs) rfl <| Gn [13, 14, 15, 16, 17, 18, 21, 19, 22] [1, 5, 6, 7, 8, 27, 28, 50, 51, 52, 53, 54, 55, 56, 57, 58, 59, 60, 61, 67, 68, 75, 76] <| Gi (b := bP) (o := oP) (len := 12) (cap := cP) (j := r) 73 7 56 .i64 <| Gn [15, 16, 17, 18, 21, 19, 22] [1, 5, 6, 7, 8, 27, 28, 50, 51, 52, 53, 54, 55, 56, 57, 58, 59, 60, 61, 67, 68, 78] <| Mc (oP + r * 7 + 1) (nt tk) qhP.blk (fun hs => (fun q h1 h2 => dis56 q h2 h1) _ hdv.own.2.1 hs) (At.cell qhP (es_at hqi) rfl) <| Hg (recount_spec F50 v s1 r (PollS.mk tk tl sta stp) _ ho51 hh1 hvi1.1 hqi hs0 (hvi1.1.trk _ _ hqi)) ?_
       rintro _ w115 ⟨rfl, ⟨F117, ho118, hfr119⟩, hk116⟩
       have K120 := Keep.fresh K111 hk116 (by intro i hi hs; first | exact hs | (exfalso; have h1 := own52 i hs; have h2 := lt61 i hs; omega) | (have h1 := own52 i hs; have h2 := lt61 i hs; show _ ∨ _; omega))
       refine ⟨_, rfl, K120, ?_⟩
       have hzK120 := Keep.size K120
       have hsz121 := Keep.size hk116
       replace hb110 := hb110.keep hk116 (fun hs => by have h1 := own52 _ hs; have h2 := lt61 _ hs; omega)
       replace hk77 := frr hk77 hk116 rel78
       have own123 : ∀ q, F117 q → w.heap.size ≤ q ∧ q ≠ b9 ∧ q ≠ b110 := fun q hq => by rcases hfr119 q hq with h | h; (have h1 := own52 q h; have h2 := lt61 q h; omega); omega
       have lt122 := VotT.lt ho118
       have rel124 : ∀ q, F117 q → F q ∨ w36.heap.size ≤ q := fun q hq => by rcases hfr119 q hq with h | h; exact rel53 q h; exact .inr (by omega)
       have rel125 : ∀ q, F117 q → B10 q ∨ w7.heap.size ≤ q := fun q hq => by rcases hfr119 q hq with h | h; exact rel62 q h; exact .inr (by omega)
       have rel126 : ∀ q, F117 q → F50 q ∨ w64.heap.size ≤ q := fun q hq => by rcases hfr119 q hq with h | h; exact rel78 q h; exact .inr (by omega)
       have dis127 : ∀ q, F117 q → ¬ G q := fun q h1 h2 => by rcases hfr119 q h1 with h | h; exact dis54 q h h2; (have h4 := ltG q h2; omega)
       have dis128 : ∀ q, F117 q → ¬ H q := fun q h1 h2 => by rcases hfr119 q h1 with h | h; exact dis55 q h h2; (have h4 := ltH q h2; omega)
       have dis129 : ∀ q, F117 q → ¬ I q := fun q h1 h2 => by rcases hfr119 q h1 with h | h; exact dis56 q h h2; (have h4 := ltI q h2; omega)
       refine Gn [21, 19, 22] [1, 5, 6, 7, 8, 27, 28, 50, 51, 52, 53, 54, 55, 56, 57, 58, 59, 60, 61, 63, 81] <| GI_set0 (m := 3) (kd := true) 43 (.tmp 8) (.tmp 81) 0 (.agg (Tly.cells (tallyT s1 (r : Int))).toArray) (Tly.cells (tallyT s1 (r : Int))) none (by kernel_rfl) (by kernel_rfl) (by kernel_rfl) (by kernel_rfl) (by kernel_rfl) hb110 (by kernel_rfl) rfl (Tly.len _) (Nat.le_of_ble_eq_true (by kernel_rfl)) (Tly.one _) ?_
       intro w130 hb110_133 hk131 hz132
       replace hb110_133 : Blk w130 b110 (Tly.cells (tallyT s1 (r : Int))) 43 := (by rwa [over_whole (by rw [Tly.len]; rfl)] at hb110_133)
       have hsz134 := Keep.size hk131
       replace hk77 := Keep.fr hk77 hk131
       replace ho118 := ho118.keep hk131 (fun q hq hs => by have hs : q = b110 := hs; have g0 := own123 q hq; have g1 := lt122 q hq; omega)
       refine Gs [] [(1, sl_ b27 o27 ac.length capl),(5, pt b9),(6, nt (i : Int)),(7, nt (r : Int)),(8, pt b110),(9, .bool true),(27, nt (i : Int)),(28, .bool (decide ((i : Int) < 80))),(50, pt b9),(51, pt b9),(52, po_ b9 3),(53, pt y),(54, pt y),(55, pt y),(56, sl_ bP oP 12 cP),(57, nt (r : Int)),(58, .pointer (some ⟨bP, oP + r * 7, none⟩)),(59, .pointer (some ⟨bP, oP + r * 7 + 2, none⟩)),(60, nt (dst sta)),(61, .bool (!(decide (dst sta = 1))))] <| GI_end ?_
       exact X_join [(1, sl_ b27 o27 ac.length capl),(5, pt b9),(6, nt (i : Int)),(7, nt (r : Int)),(8, pt b110),(9, .bool true),(27, nt (i : Int)),(28, .bool (decide ((i : Int) < 80))),(50, pt b9),(51, pt b9),(52, po_ b9 3),(53, pt y),(54, pt y),(55, pt y),(56, sl_ bP oP 12 cP),(57, nt (r : Int)),(58, .pointer (some ⟨bP, oP + r * 7, none⟩)),(59, .pointer (some ⟨bP, oP + r * 7 + 2, none⟩)),(60, nt (dst sta)),(61, .bool (!(decide (dst sta = 1))))] rfl ⟨b110, F117, hb110_133, ho118, (fun q hq => by have h1 := own123 q hq; have h2 := lt122 q hq; omega), rel126, dis127, dis128, dis129, hk77, rfl⟩
     ·
      rintro w135 _ ⟨b8, F70, hb8, ho71, own72, rel73, dis74, dis75, dis76, hk136, rfl⟩
      have hsz137 := Keep.size hk136
      replace hb := hb.keep hk136 (fun hs => by have h1 := own52 _ hs; have h2 := lt61 _ hs; omega)
      replace hk59 := frr hk59 hk136 rel53
      have lt138 := VotT.lt ho71
      have rel139 : ∀ q, F70 q → F q ∨ w36.heap.size ≤ q := fun q hq => by rcases rel73 q hq with h | h; exact rel53 q h; exact .inr (by omega)
      have rel140 : ∀ q, F70 q → B10 q ∨ w7.heap.size ≤ q := fun q hq => by rcases rel73 q hq with h | h; exact rel62 q h; exact .inr (by omega)
      have hvlt : v < w135.heap.size := VotT.lt ho71 _ (VotT.at_ ho71)
      have hb8lt := hb8.lt
      refine V_seq <| Vd1 (acts [8]) none_ [0, 1, 2, 3, 4, 5, 6, 7, 8, 9, 10, 11] fun w142 hk141 he143 K146 _ => ?_
      replace hb := hb.k0 hk141
      replace hb8 := hb8.k0 hk141
      replace hk59 := hk59.tn hk141
      replace ho71 := ho71.keep hk141 nk
      have qhb := hb
      have qhb8 := hb8
      refine Gn [6, 7, 8, 9, 10, 11] [1, 5, 6, 7, 8, 27, 28, 50, 51, 52, 53, 54, 55, 56, 57, 58, 59, 60, 61, 85, 86, 87, 88] <| Mr 1 (pt v) qhb <| Gn [8, 9, 10, 11] [1, 5, 6, 7, 8, 27, 28, 50, 51, 52, 53, 54, 55, 56, 57, 58, 59, 60, 61, 85, 86, 87, 88, 89, 90] <| Hg (tally_spec F70 v s1 (r : Int) _ (ho71).1) ?_
      rintro _ w151 ⟨rfl, hk152⟩
      have K153 := K146.tr (Keep.ofNone hk152)
      refine ⟨_, rfl, K153, ?_⟩
      have hzK153 := Keep.size K153
      have hsz154 := Keep.size hk152
      replace hk59 := hk59.tn hk152
      replace ho71 := ho71.keep hk152 nk
      refine Ma 0 (Tly.cells (tallyT s1 (r : Int))) 3 qhb8 id (take_all (Tly.len _)) (Tly.len _) <| GI_pure (some 93) ((Op.binOp BinOp.neq 43 (Operand.tmp 91) (Operand.tmp 92) 43)) (by kernel_rfl) (by kernel_rfl) (pure_neq_same (xs := Tly.cells (tallyT s1 (r : Int))) (by kernel_rfl) (by kernel_rfl) (by kernel_rfl) (by kernel_rfl)) <| Gn [] [1, 5, 6, 7, 27, 28, 50, 51, 52, 53, 54, 55, 56, 57, 58, 59, 60, 61, 86, 87, 88, 89, 90, 91, 92, 93, 94] <| GI_end <| X_then <| Vf <| V_skip <| X_block <| X_then <| V_region ?_
      have hw155 : i64.wrap ((r : Int) + 1) = ((r + 1 : Nat) : Int) := wrp
      refine On 2 [1, 5, 6, 27, 28, 41, 50, 51, 52, 53, 54, 55, 56, 57, 58, 59, 60, 61, 86, 87, 88, 89, 90, 91, 92, 93] <| Oq (u := nt (i64.wrap ((r : Int) + 1))) (v := nt ((r + 1 : Nat) : Int)) 41 (by rw [hw155]) <| Os 3 [(1, sl_ b27 o27 ac.length capl),(5, pt b9),(6, nt (i : Int)),(7, nt ((r + 1 : Nat) : Int)),(27, nt (i : Int)),(28, .bool (decide ((i : Int) < 80))),(50, pt b9),(51, pt b9),(52, po_ b9 3),(53, pt y),(54, pt y),(55, pt y),(56, sl_ bP oP 12 cP),(57, nt (r : Int)),(58, .pointer (some ⟨bP, oP + r * 7, none⟩)),(59, .pointer (some ⟨bP, oP + r * 7 + 2, none⟩)),(60, nt (dst sta)),(61, .bool (!(decide (dst sta = 1)))),(86, pt b9),(87, pt b9),(88, po_ b9 1),(89, pt v),(90, nt (r : Int)),(91, .agg (Tly.cells (tallyT s1 (r : Int))).toArray),(92, .agg (Tly.cells (tallyT s1 (r : Int))).toArray),(93, .bool false)] <| OI_end rfl ?_
      exact V_again (k58 - 1) (by omega) [(1, sl_ b27 o27 ac.length capl),(5, pt b9),(6, nt (i : Int)),(7, nt ((r + 1 : Nat) : Int)),(27, nt (i : Int)),(28, .bool (decide ((i : Int) < 80)))] rfl ⟨r + 1, F70, by omega, ho71, (fun q hq => by have h1 := own72 q hq; have h2 := lt138 q hq; omega), rel139, dis74, dis75, dis76, hk59, rfl⟩
    refine OI_eq [(1, sl_ b27 o27 ac.length capl),(5, pt b9),(6, nt (i : Int)),(7, nt (r : Int)),(27, nt (i : Int)),(28, .bool (decide ((i : Int) < 80))),(49, .bool true)] (by first | rfl | rw [hg67]) <| Oen [1, 5, 6, 7, 27, 28, 50, 51, 52, 53, 54, 55, 56, 57, 58, 59, 60, 61, 62] <| Vo <| V_exit <| X_exit_then <| X_exit_here <| X_then <| V_region ?_
    have hw156 : i64.wrap ((r : Int) + 1) = ((r + 1 : Nat) : Int) := wrp
    refine On 2 [1, 5, 6, 27, 28, 41, 50, 51, 52, 53, 54, 55, 56, 57, 58, 59, 60, 61] <| Oq (u := nt (i64.wrap ((r : Int) + 1))) (v := nt ((r + 1 : Nat) : Int)) 41 (by rw [hw156]) <| Os 3 [(1, sl_ b27 o27 ac.length capl),(5, pt b9),(6, nt (i : Int)),(7, nt ((r + 1 : Nat) : Int)),(27, nt (i : Int)),(28, .bool (decide ((i : Int) < 80))),(50, undef),(51, undef),(52, undef),(53, undef),(54, undef),(55, undef),(56, undef),(57, undef),(58, undef),(59, undef),(60, undef),(61, undef)] <| OI_end rfl ?_
    exact V_again (k58 - 1) (by omega) [(1, sl_ b27 o27 ac.length capl),(5, pt b9),(6, nt (i : Int)),(7, nt ((r + 1 : Nat) : Int)),(27, nt (i : Int)),(28, .bool (decide ((i : Int) < 80)))] rfl ⟨r + 1, F50, by omega, ho51, (fun q hq => by have h1 := own52 q hq; have h2 := lt61 q hq; omega), rel53, dis54, dis55, dis56, hk59, rfl⟩
   refine V_exit <| X_exit_then <| X_exit_then <| X_exit_here <| X_block <| X_then <| V_region ?_
   have hw157 : i64.wrap ((i : Int) + 1) = ((i + 1 : Nat) : Int) := wrp
   refine On 2 [1, 5, 27, 28, 31] <| Oq (u := nt (i64.wrap ((i : Int) + 1))) (v := nt ((i + 1 : Nat) : Int)) 31 (by rw [hw157]) <| Os 3 [(1, sl_ b27 o27 ac.length capl),(5, pt b9),(6, nt ((i + 1 : Nat) : Int)),(27, nt (i : Int)),(28, .bool (decide ((i : Int) < 80)))] <| OI_end rfl ?_
   obtain ⟨B158, hBo158, hbr158_0, hp158⟩ : ∃ B9 : Nat → Prop, (∀ q, B9 q → w.heap.size ≤ q) ∧ (∀ q, B9 q → B10 q ∨ w7.heap.size ≤ q) ∧ Pl B9 w57 b9 s1 xs1 cs1 now1 := ⟨fun q => q = b9 ∨ F50 q ∨ G q ∨ H q ∨ I q, fun q hq => by rcases hq with h | h | h | h | h; omega; (have h1 := own52 q h; omega); (have h1 := hoG q h; omega); (have h1 := hoH q h; omega); (have h1 := hoI q h; omega),(fun q hq => by rcases hq with h | h | h | h | h; (rw [h]; exact hrb45); exact rel62 q h; exact hrG47 q h; exact hrH48 q h; exact hrI49 q h), fun q hq => by rcases hq with h | h | h | h | h; omega; (have h1 := lt61 q h; omega); (have h1 := ltG q h; omega); (have h1 := ltH q h; omega); (have h1 := ltI q h; omega), .inl rfl, F50, G, H, I, v, l, x, y, ⟨hb, ho51, hl, hx, hy, fun q hq => ⟨.inr (.inl hq), by have h1 := own52 q hq; have h2 := lt61 q hq; omega⟩, fun q hq => ⟨.inr (.inr (.inl hq)), by have h1 := hoG q hq; have h2 := ltG q hq; omega⟩, fun q hq => ⟨.inr (.inr (.inr (.inl hq))), by have h1 := hoH q hq; have h2 := ltH q hq; omega⟩, fun q hq => ⟨.inr (.inr (.inr (.inr hq))), by have h1 := hoI q hq; have h2 := ltI q hq; omega⟩, dis54, dis55, dis56, hpl.gh, hpl.gi, hpl.hi⟩⟩
   have ltp158 := Pl.lt hp158
   exact V_again (k21 - 1) (by omega) [(1, sl_ b27 o27 ac.length capl),(5, pt b9),(6, nt ((i + 1 : Nat) : Int))] rfl ⟨i + 1, s1, xs1, cs1, now1, B158, by omega, by omega, hcl1, hh1, hp158, (fun q hq => by have h1 := hBo158 q hq; have h2 := ltp158 q hq; omega), hbr158_0, hk22, rfl⟩
  refine V_exit <| X_exit_then <| X_exit_then <| X_exit_here <| X_then <| Vr <| Kk (known_spec _) fun w163 hk164 _ => ?_
  replace hK0 := hK0.tn hk164
  exact Oen [4] <| Rr (.bool true) ⟨rfl, hK0⟩
 refine Df 26 hg25 <| Oen [1, 5, 6, 27, 28, 29] <| Vf <| V_exit <| X_exit_then <| X_exit_then <| X_exit_here <| X_then <| Vr <| Kk (known_spec _) fun w170 hk171 _ => ?_
 replace hK0 := hK0.tn hk171
 exact Oen [4] <| Rr (.bool true) ⟨rfl, hK0⟩
theorem over_VotingCounts {H : Type} {enc : TypeId × Value → H} {A L : Option Addr} {len cap lenl capl : Nat} {d dl : DataW H} {ps pl : List MemPlace} {w : World} (h : DataW.Trod enc Tryz.prog w 0 (fun _ => true) true 28 (.slice A len cap) d ps) (hl : DataW.Trod enc Tryz.prog w 0 (fun _ => true) true 70 (.slice L lenl capl) dl pl) : Calls Tryz.prog 9 #[.slice A len cap, .slice L lenl capl] w (rk_ w (.bool true)) := by
  obtain ⟨fs, rfl, hA, hl1, hc⟩ := read_elems (f := intc) (ks := [.int .i64]) (n := 1) (sz := 1) lift_int Tryz.underlying28 (by kernel_rfl) (by kernel_rfl) rfl (by decide) h
  obtain ⟨ac, rfl, hL, hl2, hcl⟩ := read_elems (f := Av.cells) (ks := ksA) (n := 5) (sz := 14) lift_av Tryz.underlying70 (by kernel_rfl) (by kernel_rfl) rfl (by decide) hl
  exact walk_VotingCounts A L cap capl fs ac w hA hL (by unfold maxLen at hc; omega) (by unfold maxLen at hcl; omega)
end Go.Al
