/-
  Put together out of 9 texts: Walks of package act: a call. Walks of package act: Do. Walks of the laws of act: tracks. Walks of the laws of act: a beginning. The document's refer: Submit. The document's ledger: New. The laws of act that play in both: the pair, a beginning. The laws of act that play 
-/
import Derived.Test.YtcaiibbhnalffaaGreatActDoesB6
open Go.IntKind (i64)
set_option maxRecDepth 10000
namespace Go.Al
open Go Go.RowKit Go.Proofs
set_option maxHeartbeats 2000000 in
theorem does_step (d r g : Nat) (ts : List Trk) (v l : Nat) (of now : Int) (dk : CA → RW → RsA) (c : CA) (hIH : c.k = 5 → ∀ x ∈ c.kids, DoesAt d r g ts v l of now dk x) (hlen : c.k = 5 → c.kids.length ≤ 4 ∧ ∀ x ∈ c.kids, ∀ u, (dk x u).1.length ≤ 300) : DoesAt d r g ts v l of now (doS ts of now dk) c := by
 intro D H F G u w hrep hd hR hV hl hHF hHG hFG hDo hdo
 have hdlt := hd.lt
 have hHlt := Rfr.lt hR
 have hFlt := VotT.lt hV
 have hGlt := Led.lt hl
 have hgH : H g := Rfr.atg hR
 have hHd : ∀ q, H q → 0 ≤ q ∧ q ≠ d := fun q hq => ⟨Nat.zero_le _, fun e => hdo.1 (e ▸ hq)⟩
 have hFd : ∀ q, F q → 0 ≤ q ∧ q ≠ d := fun q hq => ⟨Nat.zero_le _, fun e => hdo.2.1 (e ▸ hq)⟩
 have hGd : ∀ q, G q → 0 ≤ q ∧ q ≠ d := fun q hq => ⟨Nat.zero_le _, fun e => hdo.2.2 (e ▸ hq)⟩
 have hgo : ∀ q, only g q → q ≠ d ∧ q = g := fun q hq => ⟨fun e => hdo.1 (by rw [← e, show q = g from hq]; exact hgH), hq⟩
 have hgl : ∀ q, only g q → q < w.heap.size := fun q hq => by rw [show q = g from hq]; exact hHlt _ hgH
 have hHr : ∀ q, H q → H q ∨ w.heap.size ≤ q := fun _ h => .inl h
 have hFr : ∀ q, F q → F q ∨ w.heap.size ≤ q := fun _ h => .inl h
 have hGr : ∀ q, G q → G q ∨ w.heap.size ≤ q := fun _ h => .inl h
 have hDlt : ∀ q, D q → q < w.heap.size := fun q hq => (hDo q hq).1
 have hK0 : Keep (fun q => q = g ∨ F q ∨ G q) w w := Keep.refl _ _
 refine eV ?_
 refine Vr <| OI_box 26 (.tmp 1) (.agg (CA.cells c).toArray) (CA.cells c) (some 3) (by kernel_rfl) (by kernel_rfl) rfl ?_
 intro b1 w1 e1 hb1 k1 z1
 have hsz2 := Keep.size k1
 replace hR := hR.keep k1 nk
 replace hV := hV.keep k1 nk
 replace hl := hl.keep k1 nk
 replace hrep := RepIn.keep hrep k1 nk
 replace hK0 := hK0.tn k1
 have hb1lt := hb1.lt
 refine Oen [0, 3] <| V_seq <| V_draws (acts [8, 12, 13]) none_ [[0, 1, 2, 3, 4, 5, 6, 7, 8, 12, 9, 10, 13, 11, 14], [12, 0, 1, 2, 3, 4, 5, 6, 7, 8, 9, 10, 13, 11, 14]] (by kernel_rfl) (by repeat first | exact (by first | exact sure_body (by rintro _ _ ⟨_, _, h, _⟩; exact ⟨_, h⟩) | exact sure_body (by rintro _ _ ⟨_, _, h, _⟩; exact ⟨_, h⟩)) | refine sure_then ?_ | refine sure_block ?_ | refine sure_join ?_) (by kernel_rfl) ?_
 intro w4 hk3 he5 L hL6
 have hsz7 := Keep.size hk3
 replace hd := hd.k0 (k1.tr hk3)
 replace hb1 := hb1.k0 hk3
 replace hR := hR.keep hk3 nk
 replace hV := hV.keep hk3 nk
 replace hl := hl.keep hk3 nk
 replace hrep := RepIn.keep hrep hk3 nk
 replace hK0 := hK0.tn hk3
 have qhd := hd
 have qhb1 := hb1
 have K8 : Keep none_ w4 w4 := Keep.refl _ _
 simp only [List.mem_cons, List.not_mem_nil, or_false] at hL6
 rcases hL6 with rfl | rfl
 ·
  refine Gn [3, 4, 5, 6, 7, 8, 12, 9, 10, 13, 11, 14] [0, 3, 11] <| Mr 2 (pt r) qhd <| Gn [7, 8, 12, 9, 10, 13, 11, 14] [0, 3, 12, 15] <| Mr 3 (nt of) qhd <| Hg (rtrack_spec H r g ts u.rs of _ hR) ?_
  rintro _ w11 ⟨rfl, hk12⟩
  have K13 := K8.tr (Keep.ofNone hk12)
  refine ⟨_, rfl, K13, ?_⟩
  have hzK13 := Keep.size K13
  have hsz14 := Keep.size hk12
  replace hR := hR.keep hk12 nk
  replace hV := hV.keep hk12 nk
  replace hl := hl.keep hk12 nk
  replace hrep := RepIn.keep hrep hk12 nk
  replace hK0 := hK0.tn hk12
  refine GI_alloc 80 (.agg (Trk.cells Trk.zero).toArray) (Trk.cells Trk.zero) (some 6) (by kernel_rfl) (by kernel_rfl) K13 (by kernel_rfl) (by kernel_rfl) ?_
  intro b15 w15 e15 hb15 k15 z15 K16
  have hsz17 := Keep.size k15
  replace hd := hd.k0 (hk12.tr k15)
  replace hb1 := hb1.k0 (hk12.tr k15)
  replace hR := hR.keep k15 nk
  replace hV := hV.keep k15 nk
  replace hl := hl.keep k15 nk
  replace hrep := RepIn.keep hrep k15 nk
  replace hK0 := hK0.tn k15
  have hb15lt := hb15.lt
  refine Gn [13, 11, 14] [0, 3, 6, 8, 18] <| GI_set (m := 18) (kd := true) 80 (.tmp 6) (.tmp 18) 0 (.agg (Trk.cells (trkA ts of)).toArray) (Trk.cells (trkA ts of)) none (by kernel_rfl) (by kernel_rfl) (by kernel_rfl) (by kernel_rfl) hb15 (by kernel_rfl) rfl (Trk.len _) (Nat.le_of_ble_eq_true (by kernel_rfl)) (Trk.one _) K16 (fun hh => absurd hh (by omega)) ?_
  intro w18 hb15_21 hk19 hz20 K22
  replace hb15_21 : Blk w18 b15 (Trk.cells (trkA ts of)) 80 := (Blk.eqL (Trk.over _ _) hb15_21)
  have hsz23 := Keep.size hk19
  replace hd := hd.k1 hk19
  replace hb1 := hb1.k1 hk19
  replace hR := hR.keep hk19 (fun q hq hs => by have hs : q = b15 := hs; have g0 := hHd q hq; have g1 := hHlt q hq; omega)
  replace hV := hV.keep hk19 (fun q hq hs => by have hs : q = b15 := hs; have g0 := hFd q hq; have g1 := hFlt q hq; omega)
  replace hl := hl.keep hk19 (fun q hq hs => by have hs : q = b15 := hs; have g0 := hGd q hq; have g1 := hGlt q hq; omega)
  replace hrep := RepIn.keep hrep hk19 (fun q hq hs => by have hs : q = b15 := hs; have g1 := hDlt q hq; omega)
  replace hK0 := Keep.fr hK0 hk19
  refine Gn [] [0, 3, 6] <| GI_end <| X_then <| V_seq <| Vr <| On 1 [0, 3, 6, 20] <| Lr 0 (nt c.k) hb1 <| Oe <| V_block <| Vn [0, 3, 6, 21, 22] <| Vi (c.k = 1) (fun hc24 => ?_) (fun hc24 => ?_)
  ·
   refine V_seq <| V_draws (acts [7]) none_ [[0, 1, 2, 3, 4, 5, 6, 7, 8, 9]] (by kernel_rfl) (by repeat first | exact (by first | exact sure_body (by rintro _ _ ⟨_, _, h, _⟩; exact ⟨_, h⟩) | exact sure_body (by rintro _ _ ⟨_, _, h, _⟩; exact ⟨_, h⟩)) | refine sure_then ?_ | refine sure_block ?_ | refine sure_join ?_) (by kernel_rfl) ?_
   intro w26 hk25 he27 L hL28
   have hsz29 := Keep.size hk25
   replace hd := hd.k0 hk25
   replace hb1 := hb1.k0 hk25
   replace hR := hR.keep hk25 nk
   replace hV := hV.keep hk25 nk
   replace hl := hl.keep hk25 nk
   replace hK0 := hK0.tn hk25
   have qhd := hd
   have qhb1 := hb1
   have K30 : Keep none_ w26 w26 := Keep.refl _ _
   obtain rfl := List.mem_singleton.1 hL28
   refine Gn [3, 4, 5, 6, 7, 8, 9] [3, 26] <| Mr 3 (nt of) qhd <| Gn [5, 6, 7, 8, 9] [27, 28] <| Mr 2 (nt c.n) qhb1 <| Gn [7, 8, 9] [30] <| GI_slit (E := 52) (zv := .agg #[nt 0, nt 0, nt 0]) (sz := 3) (by_ := 24) 27 1 #[(0, (Operand.tmp 30))] [.agg #[nt 5, nt of, nt c.n]] [nt 5, nt of, nt c.n] (some 31) (by kernel_rfl) (by kernel_rfl) K30 (by kernel_rfl) (by kernel_rfl) (by omega) rfl (by omega) (by intro v hv; simp only [List.mem_cons, List.not_mem_nil, or_false] at hv; rcases hv with rfl <;> rfl) (by kernel_rfl) rfl ?_
   intro b31 w31 e31 hb31 k31 z31 K32
   have hsz33 := Keep.size k31
   replace hR := hR.keep k31 nk
   replace hV := hV.keep k31 nk
   replace hl := hl.keep k31 nk
   replace hK0 := hK0.tn k31
   have hb31lt := hb31.lt
   refine Gn [] [4, 5] <| GI_end <| X_then <| V_ret <| X_ret_block <| X_ret_then ?_
   have hE : doS ts of now dk c u = ([Evt.mk 5 of c.n], 0, u) := by unfold doS; rw [if_pos hc24]
   rw [hE]
   exact Xr (.tuple #[sl_ b31 0 1 1, nt 0]) ⟨(some ⟨b31, 0, none⟩), 1, rfl, slt_blk (xs := [Evt.mk 5 of c.n]) hb31 Evt.len rfl, (fun q h => by have h3 := inA_some h; omega), ⟨H, F, G, hR, hV, hl, hHr, hFr, hGr, hHF, hHG, hFG, fun q h1 h2 => by have h3 := inA_some h1; have h4 := hHlt q h2; omega, fun q h1 h2 => by have h3 := inA_some h1; have h4 := hFlt q h2; omega, fun q h1 h2 => by have h3 := inA_some h1; have h4 := hGlt q h2; omega⟩, hK0⟩
  refine Vn [0, 3, 6, 21, 32] <| Vi (c.k = 2) (fun hc34 => ?_) (fun hc34 => ?_)
  ·
   refine Vr <| On 1 [3, 6, 34] <| La 0 (Trk.cells (trkA ts of)) 18 hb15_21 (take_all (Trk.len _)) (Trk.len _) <| La 0 (CA.cells c) 4 hb1 (take_all (CA.len _)) (CA.len _) <| Kg (spend_spec (trkA ts of) c d v l r of now G u _ hd hl hdo.2.2) ?_
   rintro _ w37 ⟨A39, cap39, rfl, hA39, ow39, ⟨F40, ho41, hfr42, dA43⟩, hk38⟩
   refine ⟨_, rfl, ?_⟩
   have hsz44 := Keep.size hk38
   replace hR := hR.keep hk38 (fun q hq hs => hHG q hq hs)
   replace hV := hV.keep hk38 (fun q hq hs => hFG q hq hs)
   replace hK0 := Keep.fresh hK0 hk38 (fun i hi hs => by rcases hGr i hs with h | h; exact .inr <| .inr <| h; (exfalso; omega))
   have own46 : ∀ q, F40 q → 0 ≤ q ∧ q ≠ d ∧ q ≠ b1 ∧ q ≠ b15 := fun q hq => by rcases hfr42 q hq with h | h; (have h1 := hGd q h; have h2 := hGlt q h; omega); omega
   have lt45 := Led.lt ho41
   have rel47 : ∀ q, F40 q → G q ∨ w.heap.size ≤ q := fun q hq => by rcases hfr42 q hq with h | h; exact hGr q h; exact .inr (by omega)
   have dis48 : ∀ q, F40 q → ¬ H q := fun q h1 h2 => by rcases hfr42 q h1 with h | h; exact hHG q h2 h; (have h4 := hHlt q h2; omega)
   have dis49 : ∀ q, F40 q → ¬ F q := fun q h1 h2 => by rcases hfr42 q h1 with h | h; exact hFG q h2 h; (have h4 := hFlt q h2; omega)
   have ltA39 := SlT.lt hA39
   have dis50 : ∀ q, inA A39 q → ¬ H q := fun q h1 h2 => by have h3 := ow39 q h1; have h4 := hHlt q h2; omega
   have dis51 : ∀ q, inA A39 q → ¬ F q := fun q h1 h2 => by have h3 := ow39 q h1; have h4 := hFlt q h2; omega
   refine Oen [4, 5] <| V_ret <| X_ret_block <| X_ret_then ?_
   have hE : doS ts of now dk c u = spS (trkA ts of) c u := by unfold doS; rw [if_neg hc24, if_pos hc34]
   rw [hE]
   exact Xr (.tuple #[.slice A39 (((spS (trkA ts of) c u).1).length) cap39, nt ((spS (trkA ts of) c u).2.1)]) ⟨A39, cap39, rfl, hA39, (fun q h => by have h1 := ow39 q h; omega), ⟨H, F, F40, (by rw [spS_rs]; exact hR),(by rw [spS_s]; exact hV), ho41, hHr, hFr, rel47, hHF, (fun q h1 h2 => dis48 q h2 h1),(fun q h1 h2 => dis49 q h2 h1),(dis50),(dis51),(dA43)⟩, hK0⟩
  refine Vn [0, 3, 6, 21, 40] <| Vi (c.k = 5) (fun hc52 => ?_) (fun hc52 => ?_)
  ·
   refine Vr <| On 2 [42, 43] <| Lr 3 (.slice c.A c.kids.length c.cap) hb1 ?_
   have hk5 : c.k = 5 := hc52
   refine Kg (batch_spec D c.A c.cap c.kids d r g ts v l of now dk H F G u _ (fun x hx => hIH hk5 x hx) (fun x hx => (hlen hk5).2 x hx) hrep.l hd hR hV hl hHF hHG hFG (fun q hq => ⟨by have h1 := hDlt q hq; omega, (hDo q hq).2⟩) hdo (hlen hk5).1) ?_
   rintro _ w55 ⟨A57, cap57, rfl, hA57, ow57, ⟨F58, F61, F64, ho59, ho62, ho65, hfr60, hfr63, hfr66, hdis67, hdis68, hdis69, dA70, dA71, dA72⟩, hk56⟩
   refine ⟨_, rfl, ?_⟩
   have hsz73 := Keep.size hk56
   replace hK0 := Keep.fresh hK0 hk56 (fun i hi hs => by rcases hs with hs | hs | hs; (exact .inl hs); (rcases hFr i hs with h | h; exact .inr <| .inl h; (exfalso; omega)); (rcases hGr i hs with h | h; exact .inr <| .inr <| h; (exfalso; omega)))
   have own75 : ∀ q, F58 q → 0 ≤ q ∧ q ≠ d ∧ q ≠ b1 ∧ q ≠ b15 := fun q hq => by rcases hfr60 q hq with h | h; (have h1 := hHd q h; have h2 := hHlt q h; omega); omega
   have lt74 := Rfr.lt ho59
   have rel76 : ∀ q, F58 q → H q ∨ w.heap.size ≤ q := fun q hq => by rcases hfr60 q hq with h | h; exact hHr q h; exact .inr (by omega)
   have own78 : ∀ q, F61 q → 0 ≤ q ∧ q ≠ d ∧ q ≠ b1 ∧ q ≠ b15 := fun q hq => by rcases hfr63 q hq with h | h; (have h1 := hFd q h; have h2 := hFlt q h; omega); omega
   have lt77 := VotT.lt ho62
   have rel79 : ∀ q, F61 q → F q ∨ w.heap.size ≤ q := fun q hq => by rcases hfr63 q hq with h | h; exact hFr q h; exact .inr (by omega)
   have own81 : ∀ q, F64 q → 0 ≤ q ∧ q ≠ d ∧ q ≠ b1 ∧ q ≠ b15 := fun q hq => by rcases hfr66 q hq with h | h; (have h1 := hGd q h; have h2 := hGlt q h; omega); omega
   have lt80 := Led.lt ho65
   have rel82 : ∀ q, F64 q → G q ∨ w.heap.size ≤ q := fun q hq => by rcases hfr66 q hq with h | h; exact hGr q h; exact .inr (by omega)
   have ltA57 := SlT.lt hA57
   refine Oen [4, 5] <| V_ret <| X_ret_block <| X_ret_then ?_
   have hE : doS ts of now dk c u = batS dk c.kids [] u := by unfold doS; rw [if_neg hc24, if_neg hc34, if_pos hc52]
   rw [hE]
   exact Xr (.tuple #[.slice A57 (((batS dk c.kids [] u).1).length) cap57, nt ((batS dk c.kids [] u).2.1)]) ⟨A57, cap57, rfl, hA57, (fun q h => by have h1 := ow57 q h; omega), ⟨F58, F61, F64, ho59, ho62, ho65, rel76, rel79, rel82, hdis67, hdis68, hdis69, (dA70),(dA71),(dA72)⟩, hK0⟩
  refine Vn [0, 3, 6, 48] <| Vi (c.k = 3) (fun hc83 => ?_) (fun hc83 => ?_)
  ·
   refine V_seq <| Vr <| On 1 [0, 3, 50] <| Lr 17 (nt ((trkA ts of).rank)) hb15_21 <| Oen [0, 3, 52] <| Vi ((trkA ts of).rank < 1) (fun hc84 => ?_) (fun hc84 => ?_)
   ·
    refine Vn [4, 5] <| Rt <| X_ret_block <| X_ret_then ?_
    have hE : doS ts of now dk c u = ([], 8, u) := by unfold doS; rw [if_neg hc24, if_neg hc34, if_neg hc52, if_pos hc83, if_pos hc84]
    rw [hE]
    exact Xr (.tuple #[.slice none 0 0, nt 8]) ⟨none, 0, rfl, SlT.nil _ _ _, (fun q h => (inA_none h).elim), ⟨H, F, G, hR, hV, hl, hHr, hFr, hGr, hHF, hHG, hFG, fun q h => (inA_none h).elim, fun q h => (inA_none h).elim, fun q h => (inA_none h).elim⟩, hK0⟩
   refine Vsk <| V_seq <| V_draws (acts [14]) none_ [[0, 1, 2, 3, 4, 5, 6, 7, 8, 9, 10, 11, 12, 13, 14, 15, 16, 17, 18]] (by kernel_rfl) (by repeat first | exact (by first | exact sure_body (by rintro _ _ ⟨_, _, h, _⟩; exact ⟨_, h⟩) | exact sure_body (by rintro _ _ ⟨_, _, h, _⟩; exact ⟨_, h⟩)) | refine sure_then ?_ | refine sure_block ?_ | refine sure_join ?_) (by kernel_rfl) ?_
   intro w86 hk85 he87 L hL88
   have hsz89 := Keep.size hk85
   replace hd := hd.k0 hk85
   replace hb1 := hb1.k0 hk85
   replace hR := hR.keep hk85 nk
   replace hV := hV.keep hk85 nk
   replace hl := hl.keep hk85 nk
   replace hK0 := hK0.tn hk85
   have qhd := hd
   have qhb1 := hb1
   have K90 : Keep none_ w86 w86 := Keep.refl _ _
   obtain rfl := List.mem_singleton.1 hL88
   refine Gn [3, 4, 5, 6, 7, 8, 9, 10, 11, 12, 13, 14, 15, 16, 17, 18] [0, 3, 55] <| Mr 2 (pt r) qhd <| Gn [7, 8, 9, 10, 11, 12, 13, 14, 15, 16, 17, 18] [0, 3, 56, 59] <| Mr 1 (pt v) qhd <| Gn [9, 10, 11, 12, 13, 14, 15, 16, 17, 18] [0, 56, 60, 61] <| Mr 2 (nt c.n) qhb1 <| Gn [13, 14, 15, 16, 17, 18] [56, 60, 62, 65] <| Mr 4 (nt now) qhd <| Jg (cancel_spec H r g ts u.rs F v u.s c.n now _ hR hV hHF) ?_
   rintro _ w93 ⟨A95, cap95, rfl, hA95, ow95, ⟨F96, F99, ho97, ho100, hfr98, hfr101, hdis102, dA103, dA104⟩, hk94⟩
   refine ⟨_, rfl, ?_⟩
   have hsz105 := Keep.size hk94
   replace hl := hl.keep hk94 (fun q hq hs => by rcases hs with hs | hs; exact hHG q (by rw [show q = g from hs]; exact hgH) hq; exact hFG q hs hq)
   replace hK0 := Keep.fresh hK0 hk94 (fun i hi hs => by rcases hs with hs | hs; (exact .inl hs); (rcases hFr i hs with h | h; exact .inr <| .inl h; (exfalso; omega)))
   have own107 : ∀ q, F96 q → 0 ≤ q ∧ q ≠ d ∧ q ≠ b1 ∧ q ≠ b15 := fun q hq => by rcases hfr98 q hq with h | h; (have h1 := hHd q h; have h2 := hHlt q h; omega); omega
   have lt106 := Rfr.lt ho97
   have rel108 : ∀ q, F96 q → H q ∨ w.heap.size ≤ q := fun q hq => by rcases hfr98 q hq with h | h; exact hHr q h; exact .inr (by omega)
   have dis109 : ∀ q, F96 q → ¬ G q := fun q h1 h2 => by rcases hfr98 q h1 with h | h; exact hHG q h h2; (have h4 := hGlt q h2; omega)
   have own111 : ∀ q, F99 q → 0 ≤ q ∧ q ≠ d ∧ q ≠ b1 ∧ q ≠ b15 := fun q hq => by rcases hfr101 q hq with h | h; (have h1 := hFd q h; have h2 := hFlt q h; omega); omega
   have lt110 := VotT.lt ho100
   have rel112 : ∀ q, F99 q → F q ∨ w.heap.size ≤ q := fun q hq => by rcases hfr101 q hq with h | h; exact hFr q h; exact .inr (by omega)
   have dis113 : ∀ q, F99 q → ¬ G q := fun q h1 h2 => by rcases hfr101 q h1 with h | h; exact hFG q h h2; (have h4 := hGlt q h2; omega)
   have ltA95 := SlT.lt hA95
   have dis114 : ∀ q, inA A95 q → ¬ G q := fun q h1 h2 => by have h3 := ow95 q h1; have h4 := hGlt q h2; omega
   refine Gn [] [4, 5] <| GI_end <| X_then <| V_ret <| X_ret_block <| X_ret_then ?_
   have hE : doS ts of now dk c u = (canL u.rs c.n, ongE u.rs c.n, rwCan u c.n now) := by unfold doS; rw [if_neg hc24, if_neg hc34, if_neg hc52, if_pos hc83, if_neg hc84]
   rw [hE]
   exact Xr (.tuple #[.slice A95 ((canL u.rs c.n).length) cap95, nt (ongE u.rs c.n)]) ⟨A95, cap95, rfl, hA95, (fun q h => by have h1 := ow95 q h; omega), ⟨F96, F99, G, ho97, ho100, hl, rel108, rel112, hGr, hdis102, dis109, dis113, (dA103),(dA104),(dis114)⟩, hK0⟩
  refine V_skip <| X_block <| X_then <| V_seq <| Vr <| On 1 [0, 3, 70] <| Lr 17 (nt ((trkA ts of).rank)) hb15_21 <| Oen [0, 3, 72] <| Vi ((trkA ts of).rank < 2) (fun hc115 => ?_) (fun hc115 => ?_)
  ·
   refine Vn [4, 5] <| Rt ?_
   have hE : doS ts of now dk c u = ([], 8, u) := by unfold doS; rw [if_neg hc24, if_neg hc34, if_neg hc52, if_neg hc83, if_pos hc115]
   rw [hE]
   exact Xr (.tuple #[.slice none 0 0, nt 8]) ⟨none, 0, rfl, SlT.nil _ _ _, (fun q h => (inA_none h).elim), ⟨H, F, G, hR, hV, hl, hHr, hFr, hGr, hHF, hHG, hFG, fun q h => (inA_none h).elim, fun q h => (inA_none h).elim, fun q h => (inA_none h).elim⟩, hK0⟩
  refine Vsk <| V_seq <| V_draws (acts [18]) none_ [[0, 1, 2, 3, 4, 5, 6, 7, 8, 9, 10, 11, 12, 13, 14, 15, 16, 17, 18, 19, 20, 21, 22]] (by kernel_rfl) (by repeat first | exact (by first | exact sure_body (by rintro _ _ ⟨_, _, h, _⟩; exact ⟨_, h⟩) | exact sure_body (by rintro _ _ ⟨_, _, h, _⟩; exact ⟨_, h⟩)) | refine sure_then ?_ | refine sure_block ?_ | refine sure_join ?_) (by kernel_rfl) ?_
  intro w117 hk116 he118 L hL119
  have hsz120 := Keep.size hk116
  replace hd := hd.k0 hk116
  replace hb1 := hb1.k0 hk116
  replace hR := hR.keep hk116 nk
  replace hV := hV.keep hk116 nk
  replace hl := hl.keep hk116 nk
  replace hK0 := hK0.tn hk116
  have qhd := hd
  have qhb1 := hb1
  have K121 : Keep none_ w117 w117 := Keep.refl _ _
  obtain rfl := List.mem_singleton.1 hL119
  refine Gn [3, 4, 5, 6, 7, 8, 9, 10, 11, 12, 13, 14, 15, 16, 17, 18, 19, 20, 21, 22] [0, 3, 75] <| Mr 2 (pt r) qhd <| Gn [7, 8, 9, 10, 11, 12, 13, 14, 15, 16, 17, 18, 19, 20, 21, 22] [0, 3, 76, 79] <| Mr 0 (pt l) qhd <| Gn [11, 12, 13, 14, 15, 16, 17, 18, 19, 20, 21, 22] [0, 3, 76, 80, 83] <| Mr 1 (pt v) qhd <| Gn [13, 14, 15, 16, 17, 18, 19, 20, 21, 22] [0, 76, 80, 84, 85] <| Mr 2 (nt c.n) qhb1 <| Gn [17, 18, 19, 20, 21, 22] [76, 80, 84, 86, 89] <| Mr 4 (nt now) qhd <| Jg (kill_spec H r g ts u.rs F v u.s G l u.xs u.cs c.n now _ hR hV hl hHF hHG hFG) ?_
  rintro _ w124 ⟨A126, cap126, rfl, hA126, ow126, ⟨F127, F130, F133, ho128, ho131, ho134, hfr129, hfr132, hfr135, hdis136, hdis137, hdis138, dA139, dA140, dA141⟩, hk125⟩
  refine ⟨_, rfl, ?_⟩
  have hsz142 := Keep.size hk125
  replace hK0 := Keep.fresh hK0 hk125 (fun i hi hs => by rcases hs with hs | hs | hs; (exact .inl hs); (rcases hFr i hs with h | h; exact .inr <| .inl h; (exfalso; omega)); (rcases hGr i hs with h | h; exact .inr <| .inr <| h; (exfalso; omega)))
  have own144 : ∀ q, F127 q → 0 ≤ q ∧ q ≠ d ∧ q ≠ b1 ∧ q ≠ b15 := fun q hq => by rcases hfr129 q hq with h | h; (have h1 := hHd q h; have h2 := hHlt q h; omega); omega
  have lt143 := Rfr.lt ho128
  have rel145 : ∀ q, F127 q → H q ∨ w.heap.size ≤ q := fun q hq => by rcases hfr129 q hq with h | h; exact hHr q h; exact .inr (by omega)
  have own147 : ∀ q, F130 q → 0 ≤ q ∧ q ≠ d ∧ q ≠ b1 ∧ q ≠ b15 := fun q hq => by rcases hfr132 q hq with h | h; (have h1 := hFd q h; have h2 := hFlt q h; omega); omega
  have lt146 := VotT.lt ho131
  have rel148 : ∀ q, F130 q → F q ∨ w.heap.size ≤ q := fun q hq => by rcases hfr132 q hq with h | h; exact hFr q h; exact .inr (by omega)
  have own150 : ∀ q, F133 q → 0 ≤ q ∧ q ≠ d ∧ q ≠ b1 ∧ q ≠ b15 := fun q hq => by rcases hfr135 q hq with h | h; (have h1 := hGd q h; have h2 := hGlt q h; omega); omega
  have lt149 := Led.lt ho134
  have rel151 : ∀ q, F133 q → G q ∨ w.heap.size ≤ q := fun q hq => by rcases hfr135 q hq with h | h; exact hGr q h; exact .inr (by omega)
  have ltA126 := SlT.lt hA126
  refine Gn [] [4, 5] <| GI_end <| X_then <| V_ret ?_
  have hE : doS ts of now dk c u = (kilL u.xs ts u.rs c.n, ongE u.rs c.n, rwKil ts u c.n now) := by unfold doS; rw [if_neg hc24, if_neg hc34, if_neg hc52, if_neg hc83, if_neg hc115]
  rw [hE]
  exact Xr (.tuple #[.slice A126 ((kilL u.xs ts u.rs c.n).length) cap126, nt (ongE u.rs c.n)]) ⟨A126, cap126, rfl, hA126, (fun q h => by have h1 := ow126 q h; omega), ⟨F127, F130, F133, ho128, ho131, ho134, rel145, rel148, rel151, hdis136, hdis137, hdis138, (dA139),(dA140),(dA141)⟩, hK0⟩
 ·
  refine GI_alloc 80 (.agg (Trk.cells Trk.zero).toArray) (Trk.cells Trk.zero) (some 6) (by kernel_rfl) (by kernel_rfl) K8 (by kernel_rfl) (by kernel_rfl) ?_
  intro b152 w152 e152 hb152 k152 z152 K153
  have hsz154 := Keep.size k152
  replace hR := hR.keep k152 nk
  replace hV := hV.keep k152 nk
  replace hl := hl.keep k152 nk
  replace hrep := RepIn.keep hrep k152 nk
  replace hK0 := hK0.tn k152
  have hb152lt := hb152.lt
  refine Gn [3, 4, 5, 6, 7, 8, 9, 10, 13, 11, 14] [0, 3, 6, 11] <| Mr 2 (pt r) qhd <| Gn [7, 8, 9, 10, 13, 11, 14] [0, 3, 6, 12, 15] <| Mr 3 (nt of) qhd <| Hg (rtrack_spec H r g ts u.rs of _ hR) ?_
  rintro _ w157 ⟨rfl, hk158⟩
  have K159 := K153.tr (Keep.ofNone hk158)
  refine ⟨_, rfl, K159, ?_⟩
  have hzK159 := Keep.size K159
  have hsz160 := Keep.size hk158
  replace hd := hd.k0 (k152.tr hk158)
  replace hb1 := hb1.k0 (k152.tr hk158)
  replace hb152 := hb152.k0 hk158
  replace hR := hR.keep hk158 nk
  replace hV := hV.keep hk158 nk
  replace hl := hl.keep hk158 nk
  replace hrep := RepIn.keep hrep hk158 nk
  replace hK0 := hK0.tn hk158
  refine Gn [13, 11, 14] [0, 3, 6, 8, 18] <| GI_set (m := 18) (kd := true) 80 (.tmp 6) (.tmp 18) 0 (.agg (Trk.cells (trkA ts of)).toArray) (Trk.cells (trkA ts of)) none (by kernel_rfl) (by kernel_rfl) (by kernel_rfl) (by kernel_rfl) hb152 (by kernel_rfl) rfl (Trk.len _) (Nat.le_of_ble_eq_true (by kernel_rfl)) (Trk.one _) K159 (fun hh => absurd hh (by omega)) ?_
  intro w161 hb152_164 hk162 hz163 K165
  replace hb152_164 : Blk w161 b152 (Trk.cells (trkA ts of)) 80 := (Blk.eqL (Trk.over _ _) hb152_164)
  have hsz166 := Keep.size hk162
  replace hd := hd.k1 hk162
  replace hb1 := hb1.k1 hk162
  replace hR := hR.keep hk162 (fun q hq hs => by have hs : q = b152 := hs; have g0 := hHd q hq; have g1 := hHlt q hq; omega)
  replace hV := hV.keep hk162 (fun q hq hs => by have hs : q = b152 := hs; have g0 := hFd q hq; have g1 := hFlt q hq; omega)
  replace hl := hl.keep hk162 (fun q hq hs => by have hs : q = b152 := hs; have g0 := hGd q hq; have g1 := hGlt q hq; omega)
  replace hrep := RepIn.keep hrep hk162 (fun q hq hs => by have hs : q = b152 := hs; have g1 := hDlt q hq; omega)
  replace hK0 := Keep.fr hK0 hk162
  refine Gn [] [0, 3, 6] <| GI_end <| X_then <| V_seq <| Vr <| On 1 [0, 3, 6, 20] <| Lr 0 (nt c.k) hb1 <| Oe <| V_block <| Vn [0, 3, 6, 21, 22] <| Vi (c.k = 1) (fun hc167 => ?_) (fun hc167 => ?_)
  ·
   refine V_seq <| V_draws (acts [7]) none_ [[0, 1, 2, 3, 4, 5, 6, 7, 8, 9]] (by kernel_rfl) (by repeat first | exact (by first | exact sure_body (by rintro _ _ ⟨_, _, h, _⟩; exact ⟨_, h⟩) | exact sure_body (by rintro _ _ ⟨_, _, h, _⟩; exact ⟨_, h⟩)) | refine sure_then ?_ | refine sure_block ?_ | refine sure_join ?_) (by kernel_rfl) ?_
   intro w169 hk168 he170 L hL171
   have hsz172 := Keep.size hk168
   replace hd := hd.k0 hk168
   replace hb1 := hb1.k0 hk168
   replace hR := hR.keep hk168 nk
   replace hV := hV.keep hk168 nk
   replace hl := hl.keep hk168 nk
   replace hK0 := hK0.tn hk168
   have qhd := hd
   have qhb1 := hb1
   have K173 : Keep none_ w169 w169 := Keep.refl _ _
   obtain rfl := List.mem_singleton.1 hL171
   refine Gn [3, 4, 5, 6, 7, 8, 9] [3, 26] <| Mr 3 (nt of) qhd <| Gn [5, 6, 7, 8, 9] [27, 28] <| Mr 2 (nt c.n) qhb1 <| Gn [7, 8, 9] [30] <| GI_slit (E := 52) (zv := .agg #[nt 0, nt 0, nt 0]) (sz := 3) (by_ := 24) 27 1 #[(0, (Operand.tmp 30))] [.agg #[nt 5, nt of, nt c.n]] [nt 5, nt of, nt c.n] (some 31) (by kernel_rfl) (by kernel_rfl) K173 (by kernel_rfl) (by kernel_rfl) (by omega) rfl (by omega) (by intro v hv; simp only [List.mem_cons, List.not_mem_nil, or_false] at hv; rcases hv with rfl <;> rfl) (by kernel_rfl) rfl ?_
   intro b174 w174 e174 hb174 k174 z174 K175
   have hsz176 := Keep.size k174
   replace hR := hR.keep k174 nk
   replace hV := hV.keep k174 nk
   replace hl := hl.keep k174 nk
   replace hK0 := hK0.tn k174
   have hb174lt := hb174.lt
   refine Gn [] [4, 5] <| GI_end <| X_then <| V_ret <| X_ret_block <| X_ret_then ?_
   have hE : doS ts of now dk c u = ([Evt.mk 5 of c.n], 0, u) := by unfold doS; rw [if_pos hc167]
   rw [hE]
   exact Xr (.tuple #[sl_ b174 0 1 1, nt 0]) ⟨(some ⟨b174, 0, none⟩), 1, rfl, slt_blk (xs := [Evt.mk 5 of c.n]) hb174 Evt.len rfl, (fun q h => by have h3 := inA_some h; omega), ⟨H, F, G, hR, hV, hl, hHr, hFr, hGr, hHF, hHG, hFG, fun q h1 h2 => by have h3 := inA_some h1; have h4 := hHlt q h2; omega, fun q h1 h2 => by have h3 := inA_some h1; have h4 := hFlt q h2; omega, fun q h1 h2 => by have h3 := inA_some h1; have h4 := hGlt q h2; omega⟩, hK0⟩
  refine Vn [0, 3, 6, 21, 32] <| Vi (c.k = 2) (fun hc177 => ?_) (fun hc177 => ?_)
  ·
   refine Vr <| On 1 [3, 6, 34] <| La 0 (Trk.cells (trkA ts of)) 18 hb152_164 (take_all (Trk.len _)) (Trk.len _) <| La 0 (CA.cells c) 4 hb1 (take_all (CA.len _)) (CA.len _) <| Kg (spend_spec (trkA ts of) c d v l r of now G u _ hd hl hdo.2.2) ?_
   rintro _ w180 ⟨A182, cap182, rfl, hA182, ow182, ⟨F183, ho184, hfr185, dA186⟩, hk181⟩
   refine ⟨_, rfl, ?_⟩
   have hsz187 := Keep.size hk181
   replace hR := hR.keep hk181 (fun q hq hs => hHG q hq hs)
   replace hV := hV.keep hk181 (fun q hq hs => hFG q hq hs)
   replace hK0 := Keep.fresh hK0 hk181 (fun i hi hs => by rcases hGr i hs with h | h; exact .inr <| .inr <| h; (exfalso; omega))
   have own189 : ∀ q, F183 q → 0 ≤ q ∧ q ≠ d ∧ q ≠ b1 ∧ q ≠ b152 := fun q hq => by rcases hfr185 q hq with h | h; (have h1 := hGd q h; have h2 := hGlt q h; omega); omega
   have lt188 := Led.lt ho184
   have rel190 : ∀ q, F183 q → G q ∨ w.heap.size ≤ q := fun q hq => by rcases hfr185 q hq with h | h; exact hGr q h; exact .inr (by omega)
   have dis191 : ∀ q, F183 q → ¬ H q := fun q h1 h2 => by rcases hfr185 q h1 with h | h; exact hHG q h2 h; (have h4 := hHlt q h2; omega)
   have dis192 : ∀ q, F183 q → ¬ F q := fun q h1 h2 => by rcases hfr185 q h1 with h | h; exact hFG q h2 h; (have h4 := hFlt q h2; omega)
   have ltA182 := SlT.lt hA182
   have dis193 : ∀ q, inA A182 q → ¬ H q := fun q h1 h2 => by have h3 := ow182 q h1; have h4 := hHlt q h2; omega
   have dis194 : ∀ q, inA A182 q → ¬ F q := fun q h1 h2 => by have h3 := ow182 q h1; have h4 := hFlt q h2; omega
   refine Oen [4, 5] <| V_ret <| X_ret_block <| X_ret_then ?_
   have hE : doS ts of now dk c u = spS (trkA ts of) c u := by unfold doS; rw [if_neg hc167, if_pos hc177]
   rw [hE]
   exact Xr (.tuple #[.slice A182 (((spS (trkA ts of) c u).1).length) cap182, nt ((spS (trkA ts of) c u).2.1)]) ⟨A182, cap182, rfl, hA182, (fun q h => by have h1 := ow182 q h; omega), ⟨H, F, F183, (by rw [spS_rs]; exact hR),(by rw [spS_s]; exact hV), ho184, hHr, hFr, rel190, hHF, (fun q h1 h2 => dis191 q h2 h1),(fun q h1 h2 => dis192 q h2 h1),(dis193),(dis194),(dA186)⟩, hK0⟩
  refine Vn [0, 3, 6, 21, 40] <| Vi (c.k = 5) (fun hc195 => ?_) (fun hc195 => ?_)
  ·
   refine Vr <| On 2 [42, 43] <| Lr 3 (.slice c.A c.kids.length c.cap) hb1 ?_
   have hk5 : c.k = 5 := hc195
   refine Kg (batch_spec D c.A c.cap c.kids d r g ts v l of now dk H F G u _ (fun x hx => hIH hk5 x hx) (fun x hx => (hlen hk5).2 x hx) hrep.l hd hR hV hl hHF hHG hFG (fun q hq => ⟨by have h1 := hDlt q hq; omega, (hDo q hq).2⟩) hdo (hlen hk5).1) ?_
   rintro _ w198 ⟨A200, cap200, rfl, hA200, ow200, ⟨F201, F204, F207, ho202, ho205, ho208, hfr203, hfr206, hfr209, hdis210, hdis211, hdis212, dA213, dA214, dA215⟩, hk199⟩
   refine ⟨_, rfl, ?_⟩
   have hsz216 := Keep.size hk199
   replace hK0 := Keep.fresh hK0 hk199 (fun i hi hs => by rcases hs with hs | hs | hs; (exact .inl hs); (rcases hFr i hs with h | h; exact .inr <| .inl h; (exfalso; omega)); (rcases hGr i hs with h | h; exact .inr <| .inr <| h; (exfalso; omega)))
   have own218 : ∀ q, F201 q → 0 ≤ q ∧ q ≠ d ∧ q ≠ b1 ∧ q ≠ b152 := fun q hq => by rcases hfr203 q hq with h | h; (have h1 := hHd q h; have h2 := hHlt q h; omega); omega
   have lt217 := Rfr.lt ho202
   have rel219 : ∀ q, F201 q → H q ∨ w.heap.size ≤ q := fun q hq => by rcases hfr203 q hq with h | h; exact hHr q h; exact .inr (by omega)
   have own221 : ∀ q, F204 q → 0 ≤ q ∧ q ≠ d ∧ q ≠ b1 ∧ q ≠ b152 := fun q hq => by rcases hfr206 q hq with h | h; (have h1 := hFd q h; have h2 := hFlt q h; omega); omega
   have lt220 := VotT.lt ho205
   have rel222 : ∀ q, F204 q → F q ∨ w.heap.size ≤ q := fun q hq => by rcases hfr206 q hq with h | h; exact hFr q h; exact .inr (by omega)
   have own224 : ∀ q, F207 q → 0 ≤ q ∧ q ≠ d ∧ q ≠ b1 ∧ q ≠ b152 := fun q hq => by rcases hfr209 q hq with h | h; (have h1 := hGd q h; have h2 := hGlt q h; omega); omega
   have lt223 := Led.lt ho208
   have rel225 : ∀ q, F207 q → G q ∨ w.heap.size ≤ q := fun q hq => by rcases hfr209 q hq with h | h; exact hGr q h; exact .inr (by omega)
   have ltA200 := SlT.lt hA200
   refine Oen [4, 5] <| V_ret <| X_ret_block <| X_ret_then ?_
   have hE : doS ts of now dk c u = batS dk c.kids [] u := by unfold doS; rw [if_neg hc167, if_neg hc177, if_pos hc195]
   rw [hE]
   exact Xr (.tuple #[.slice A200 (((batS dk c.kids [] u).1).length) cap200, nt ((batS dk c.kids [] u).2.1)]) ⟨A200, cap200, rfl, hA200, (fun q h => by have h1 := ow200 q h; omega), ⟨F201, F204, F207, ho202, ho205, ho208, rel219, rel222, rel225, hdis210, hdis211, hdis212, (dA213),(dA214),(dA215)⟩, hK0⟩
  refine Vn [0, 3, 6, 48] <| Vi (c.k = 3) (fun hc226 => ?_) (fun hc226 => ?_)
  ·
   refine V_seq <| Vr <| On 1 [0, 3, 50] <| Lr 17 (nt ((trkA ts of).rank)) hb152_164 <| Oen [0, 3, 52] <| Vi ((trkA ts of).rank < 1) (fun hc227 => ?_) (fun hc227 => ?_)
   ·
    refine Vn [4, 5] <| Rt <| X_ret_block <| X_ret_then ?_
    have hE : doS ts of now dk c u = ([], 8, u) := by unfold doS; rw [if_neg hc167, if_neg hc177, if_neg hc195, if_pos hc226, if_pos hc227]
    rw [hE]
    exact Xr (.tuple #[.slice none 0 0, nt 8]) ⟨none, 0, rfl, SlT.nil _ _ _, (fun q h => (inA_none h).elim), ⟨H, F, G, hR, hV, hl, hHr, hFr, hGr, hHF, hHG, hFG, fun q h => (inA_none h).elim, fun q h => (inA_none h).elim, fun q h => (inA_none h).elim⟩, hK0⟩
   refine Vsk <| V_seq <| V_draws (acts [14]) none_ [[0, 1, 2, 3, 4, 5, 6, 7, 8, 9, 10, 11, 12, 13, 14, 15, 16, 17, 18]] (by kernel_rfl) (by repeat first | exact (by first | exact sure_body (by rintro _ _ ⟨_, _, h, _⟩; exact ⟨_, h⟩) | exact sure_body (by rintro _ _ ⟨_, _, h, _⟩; exact ⟨_, h⟩)) | refine sure_then ?_ | refine sure_block ?_ | refine sure_join ?_) (by kernel_rfl) ?_
   intro w229 hk228 he230 L hL231
   have hsz232 := Keep.size hk228
   replace hd := hd.k0 hk228
   replace hb1 := hb1.k0 hk228
   replace hR := hR.keep hk228 nk
   replace hV := hV.keep hk228 nk
   replace hl := hl.keep hk228 nk
   replace hK0 := hK0.tn hk228
   have qhd := hd
   have qhb1 := hb1
   have K233 : Keep none_ w229 w229 := Keep.refl _ _
   obtain rfl := List.mem_singleton.1 hL231
   refine Gn [3, 4, 5, 6, 7, 8, 9, 10, 11, 12, 13, 14, 15, 16, 17, 18] [0, 3, 55] <| Mr 2 (pt r) qhd <| Gn [7, 8, 9, 10, 11, 12, 13, 14, 15, 16, 17, 18] [0, 3, 56, 59] <| Mr 1 (pt v) qhd <| Gn [9, 10, 11, 12, 13, 14, 15, 16, 17, 18] [0, 56, 60, 61] <| Mr 2 (nt c.n) qhb1 <| Gn [13, 14, 15, 16, 17, 18] [56, 60, 62, 65] <| Mr 4 (nt now) qhd <| Jg (cancel_spec H r g ts u.rs F v u.s c.n now _ hR hV hHF) ?_
   rintro _ w236 ⟨A238, cap238, rfl, hA238, ow238, ⟨F239, F242, ho240, ho243, hfr241, hfr244, hdis245, dA246, dA247⟩, hk237⟩
   refine ⟨_, rfl, ?_⟩
   have hsz248 := Keep.size hk237
   replace hl := hl.keep hk237 (fun q hq hs => by rcases hs with hs | hs; exact hHG q (by rw [show q = g from hs]; exact hgH) hq; exact hFG q hs hq)
   replace hK0 := Keep.fresh hK0 hk237 (fun i hi hs => by rcases hs with hs | hs; (exact .inl hs); (rcases hFr i hs with h | h; exact .inr <| .inl h; (exfalso; omega)))
   have own250 : ∀ q, F239 q → 0 ≤ q ∧ q ≠ d ∧ q ≠ b1 ∧ q ≠ b152 := fun q hq => by rcases hfr241 q hq with h | h; (have h1 := hHd q h; have h2 := hHlt q h; omega); omega
   have lt249 := Rfr.lt ho240
   have rel251 : ∀ q, F239 q → H q ∨ w.heap.size ≤ q := fun q hq => by rcases hfr241 q hq with h | h; exact hHr q h; exact .inr (by omega)
   have dis252 : ∀ q, F239 q → ¬ G q := fun q h1 h2 => by rcases hfr241 q h1 with h | h; exact hHG q h h2; (have h4 := hGlt q h2; omega)
   have own254 : ∀ q, F242 q → 0 ≤ q ∧ q ≠ d ∧ q ≠ b1 ∧ q ≠ b152 := fun q hq => by rcases hfr244 q hq with h | h; (have h1 := hFd q h; have h2 := hFlt q h; omega); omega
   have lt253 := VotT.lt ho243
   have rel255 : ∀ q, F242 q → F q ∨ w.heap.size ≤ q := fun q hq => by rcases hfr244 q hq with h | h; exact hFr q h; exact .inr (by omega)
   have dis256 : ∀ q, F242 q → ¬ G q := fun q h1 h2 => by rcases hfr244 q h1 with h | h; exact hFG q h h2; (have h4 := hGlt q h2; omega)
   have ltA238 := SlT.lt hA238
   have dis257 : ∀ q, inA A238 q → ¬ G q := fun q h1 h2 => by have h3 := ow238 q h1; have h4 := hGlt q h2; omega
   refine Gn [] [4, 5] <| GI_end <| X_then <| V_ret <| X_ret_block <| X_ret_then ?_
   have hE : doS ts of now dk c u = (canL u.rs c.n, ongE u.rs c.n, rwCan u c.n now) := by unfold doS; rw [if_neg hc167, if_neg hc177, if_neg hc195, if_pos hc226, if_neg hc227]
   rw [hE]
   exact Xr (.tuple #[.slice A238 ((canL u.rs c.n).length) cap238, nt (ongE u.rs c.n)]) ⟨A238, cap238, rfl, hA238, (fun q h => by have h1 := ow238 q h; omega), ⟨F239, F242, G, ho240, ho243, hl, rel251, rel255, hGr, hdis245, dis252, dis256, (dA246),(dA247),(dis257)⟩, hK0⟩
  refine V_skip <| X_block <| X_then <| V_seq <| Vr <| On 1 [0, 3, 70] <| Lr 17 (nt ((trkA ts of).rank)) hb152_164 <| Oen [0, 3, 72] <| Vi ((trkA ts of).rank < 2) (fun hc258 => ?_) (fun hc258 => ?_)
  ·
   refine Vn [4, 5] <| Rt ?_
   have hE : doS ts of now dk c u = ([], 8, u) := by unfold doS; rw [if_neg hc167, if_neg hc177, if_neg hc195, if_neg hc226, if_pos hc258]
   rw [hE]
   exact Xr (.tuple #[.slice none 0 0, nt 8]) ⟨none, 0, rfl, SlT.nil _ _ _, (fun q h => (inA_none h).elim), ⟨H, F, G, hR, hV, hl, hHr, hFr, hGr, hHF, hHG, hFG, fun q h => (inA_none h).elim, fun q h => (inA_none h).elim, fun q h => (inA_none h).elim⟩, hK0⟩
  refine Vsk <| V_seq <| V_draws (acts [18]) none_ [[0, 1, 2, 3, 4, 5, 6, 7, 8, 9, 10, 11, 12, 13, 14, 15, 16, 17, 18, 19, 20, 21, 22]] (by kernel_rfl) (by repeat first | exact (by first | exact sure_body (by rintro _ _ ⟨_, _, h, _⟩; exact ⟨_, h⟩) | exact sure_body (by rintro _ _ ⟨_, _, h, _⟩; exact ⟨_, h⟩)) | refine sure_then ?_ | refine sure_block ?_ | refine sure_join ?_) (by kernel_rfl) ?_
  intro w260 hk259 he261 L hL262
  have hsz263 := Keep.size hk259
  replace hd := hd.k0 hk259
  replace hb1 := hb1.k0 hk259
  replace hR := hR.keep hk259 nk
  replace hV := hV.keep hk259 nk
  replace hl := hl.keep hk259 nk
  replace hK0 := hK0.tn hk259
  have qhd := hd
  have qhb1 := hb1
  have K264 : Keep none_ w260 w260 := Keep.refl _ _
  obtain rfl := List.mem_singleton.1 hL262
  refine Gn [3, 4, 5, 6, 7, 8, 9, 10, 11, 12, 13, 14, 15, 16, 17, 18, 19, 20, 21, 22] [0, 3, 75] <| Mr 2 (pt r) qhd <| Gn [7, 8, 9, 10, 11, 12, 13, 14, 15, 16, 17, 18, 19, 20, 21, 22] [0, 3, 76, 79] <| Mr 0 (pt l) qhd <| Gn [11, 12, 13, 14, 15, 16, 17, 18, 19, 20, 21, 22] [0, 3, 76, 80, 83] <| Mr 1 (pt v) qhd <| Gn [13, 14, 15, 16, 17, 18, 19, 20, 21, 22] [0, 76, 80, 84, 85] <| Mr 2 (nt c.n) qhb1 <| Gn [17, 18, 19, 20, 21, 22] [76, 80, 84, 86, 89] <| Mr 4 (nt now) qhd <| Jg (kill_spec H r g ts u.rs F v u.s G l u.xs u.cs c.n now _ hR hV hl hHF hHG hFG) ?_
  rintro _ w267 ⟨A269, cap269, rfl, hA269, ow269, ⟨F270, F273, F276, ho271, ho274, ho277, hfr272, hfr275, hfr278, hdis279, hdis280, hdis281, dA282, dA283, dA284⟩, hk268⟩
  refine ⟨_, rfl, ?_⟩
  have hsz285 := Keep.size hk268
  replace hK0 := Keep.fresh hK0 hk268 (fun i hi hs => by rcases hs with hs | hs | hs; (exact .inl hs); (rcases hFr i hs with h | h; exact .inr <| .inl h; (exfalso; omega)); (rcases hGr i hs with h | h; exact .inr <| .inr <| h; (exfalso; omega)))
  have own287 : ∀ q, F270 q → 0 ≤ q ∧ q ≠ d ∧ q ≠ b1 ∧ q ≠ b152 := fun q hq => by rcases hfr272 q hq with h | h; (have h1 := hHd q h; have h2 := hHlt q h; omega); omega
  have lt286 := Rfr.lt ho271
  have rel288 : ∀ q, F270 q → H q ∨ w.heap.size ≤ q := fun q hq => by rcases hfr272 q hq with h | h; exact hHr q h; exact .inr (by omega)
  have own290 : ∀ q, F273 q → 0 ≤ q ∧ q ≠ d ∧ q ≠ b1 ∧ q ≠ b152 := fun q hq => by rcases hfr275 q hq with h | h; (have h1 := hFd q h; have h2 := hFlt q h; omega); omega
  have lt289 := VotT.lt ho274
  have rel291 : ∀ q, F273 q → F q ∨ w.heap.size ≤ q := fun q hq => by rcases hfr275 q hq with h | h; exact hFr q h; exact .inr (by omega)
  have own293 : ∀ q, F276 q → 0 ≤ q ∧ q ≠ d ∧ q ≠ b1 ∧ q ≠ b152 := fun q hq => by rcases hfr278 q hq with h | h; (have h1 := hGd q h; have h2 := hGlt q h; omega); omega
  have lt292 := Led.lt ho277
  have rel294 : ∀ q, F276 q → G q ∨ w.heap.size ≤ q := fun q hq => by rcases hfr278 q hq with h | h; exact hGr q h; exact .inr (by omega)
  have ltA269 := SlT.lt hA269
  refine Gn [] [4, 5] <| GI_end <| X_then <| V_ret ?_
  have hE : doS ts of now dk c u = (kilL u.xs ts u.rs c.n, ongE u.rs c.n, rwKil ts u c.n now) := by unfold doS; rw [if_neg hc167, if_neg hc177, if_neg hc195, if_neg hc226, if_neg hc258]
  rw [hE]
  exact Xr (.tuple #[.slice A269 ((kilL u.xs ts u.rs c.n).length) cap269, nt (ongE u.rs c.n)]) ⟨A269, cap269, rfl, hA269, (fun q h => by have h1 := ow269 q h; omega), ⟨F270, F273, F276, ho271, ho274, ho277, rel288, rel291, rel294, hdis279, hdis280, hdis281, (dA282),(dA283),(dA284)⟩, hK0⟩
theorem does_spec (d r g : Nat) (ts : List Trk) (v l : Nat) (of now : Int) : ∀ (f : Nat), f ≤ 3 → ∀ (c : CA), okCA f c = true → DoesAt d r g ts v l of now (doC ts of now f) c
  | 0, _, c, h => does_step d r g ts v l of now _ c (fun h5 => by have := stepC_kids h h5; simp at this) (fun h5 => by have := stepC_kids h h5; simp at this)
  | f + 1, hf, c, h => does_step d r g ts v l of now _ c (fun h5 x hx => does_spec d r g ts v l of now f (by omega) x ((stepC_kids h h5).2.2 x hx)) (fun h5 => ⟨(stepC_kids h h5).2.1, fun x hx u => doC_len f (by omega) x u ((stepC_kids h h5).2.2 x hx)⟩)
end Go.Al
namespace Go.Al
open Go Go.RowKit Go.Proofs
set_option maxHeartbeats 2000000 in
theorem do_spec (D : Nat → Prop) (c : CA) (r g : Nat) (ts : List Trk) (v l : Nat) (of now : Int) (H F G : Nat → Prop) (u : RW) (w : World) (hrep : RepIn D w c) (hR : Rfr H w r g ts u.rs) (hV : VotT F w v u.s) (hl : Led G w l u.xs u.cs) (hHF : ∀ q, H q → ¬ F q) (hHG : ∀ q, H q → ¬ G q) (hFG : ∀ q, F q → ¬ G q) (hDo : ∀ q, D q → q < w.heap.size ∧ ¬ H q ∧ ¬ F q ∧ ¬ G q) : Calls Tryz.prog 10 #[pt l, pt v, pt r, .agg c.cells.toArray, nt of, nt now] w fun e w' => ∃ A' cap', e = .returned (.tuple #[.slice A' ((doD ts of now c u).1).length cap', nt ((doD ts of now c u).2.1)]) ∧ SlT w' 3 Evt.cells A' cap' ((doD ts of now c u).1) ∧ (∀ q, inA A' q → w.heap.size ≤ q) ∧ (∃ H' F' G', Rfr H' w' r g ts (doD ts of now c u).2.2.rs ∧ VotT F' w' v (doD ts of now c u).2.2.s ∧ Led G' w' l (doD ts of now c u).2.2.xs (doD ts of now c u).2.2.cs ∧ (∀ q, H' q → H q ∨ w.heap.size ≤ q) ∧ (∀ q, F' q → F q ∨ w.heap.size ≤ q) ∧ (∀ q, G' q → G q ∨ w.heap.size ≤ q) ∧ (∀ q, H' q → ¬ F' q) ∧ (∀ q, H' q → ¬ G' q) ∧ (∀ q, F' q → ¬ G' q) ∧ (∀ q, inA A' q → ¬ H' q) ∧ (∀ q, inA A' q → ¬ F' q) ∧ (∀ q, inA A' q → ¬ G' q)) ∧ Keep (fun q => q = g ∨ F q ∨ G q) w w' := by
 have hHlt := Rfr.lt hR
 have hFlt := VotT.lt hV
 have hGlt := Led.lt hl
 have hgH : H g := Rfr.atg hR
 have hHd : ∀ q, H q → 0 ≤ q := fun q _ => Nat.zero_le _
 have hHl0 := hHlt
 have hFd : ∀ q, F q → 0 ≤ q := fun q _ => Nat.zero_le _
 have hFl0 := hFlt
 have hGd : ∀ q, G q → 0 ≤ q := fun q _ => Nat.zero_le _
 have hGl0 := hGlt
 have hgo : ∀ q, only g q → q = g := fun q hq => hq
 have hgl : ∀ q, only g q → q < w.heap.size := fun q hq => by rw [show q = g from hq]; exact hHlt _ hgH
 have hHr : ∀ q, H q → H q ∨ w.heap.size ≤ q := fun _ h => .inl h
 have hFr : ∀ q, F q → F q ∨ w.heap.size ≤ q := fun _ h => .inl h
 have hGr : ∀ q, G q → G q ∨ w.heap.size ≤ q := fun _ h => .inl h
 have hDlt : ∀ q, D q → q < w.heap.size := fun q hq => (hDo q hq).1
 have hK0 : Keep (fun q => q = g ∨ F q ∨ G q) w w := Keep.refl _ _
 refine eV ?_
 refine Vr <| OI_box 26 (.tmp 3) (.agg (CA.cells c).toArray) (CA.cells c) (some 9) (by kernel_rfl) (by kernel_rfl) rfl ?_
 intro b1 w1 e1 hb1 k1 z1
 have hsz2 := Keep.size k1
 replace hR := hR.keep k1 nk
 replace hV := hV.keep k1 nk
 replace hl := hl.keep k1 nk
 replace hrep := RepIn.keep hrep k1 nk
 replace hK0 := hK0.tn k1
 have hb1lt := hb1.lt
 refine On 3 [0, 1, 2, 4, 5, 9] <| Oe <| V_seq <| Vr <| On 2 [0, 1, 2, 4, 5, 9, 17, 18] <| Kk (rtrack_spec H r g ts u.rs of _ hR) fun w5 hk6 _ => ?_
 replace hR := hR.keep hk6 nk
 replace hV := hV.keep hk6 nk
 replace hl := hl.keep hk6 nk
 replace hrep := RepIn.keep hrep hk6 nk
 replace hK0 := hK0.tn hk6
 refine On 6 [0, 1, 2, 4, 5, 9, 20, 21] <| Alc_ 80 (.agg (Trk.cells Trk.zero).toArray) (Trk.cells Trk.zero) ?_
 intro b8 w8 e8 hb8 k8 z8
 have hsz9 := Keep.size k8
 replace hb1 := hb1.k0 (hk6.tr k8)
 replace hR := hR.keep k8 nk
 replace hV := hV.keep k8 nk
 replace hl := hl.keep k8 nk
 replace hrep := RepIn.keep hrep k8 nk
 replace hK0 := hK0.tn k8
 have hb8lt := hb8.lt
 refine Sg 0 (Trk.cells (trkA ts of)) hb8 (Trk.len _) (Trk.one _) ?_
 intro w10 hb8_13 hk11 hz12
 replace hb8_13 : Blk w10 b8 (Trk.cells (trkA ts of)) 80 := (Blk.eqL (Trk.over _ _) hb8_13)
 have hsz14 := Keep.size hk11
 replace hb1 := hb1.k1 hk11
 replace hR := hR.keep hk11 (fun q hq hs => by have hs : q = b8 := hs; have g0 := hHd q hq; have g1 := hHlt q hq; omega)
 replace hV := hV.keep hk11 (fun q hq hs => by have hs : q = b8 := hs; have g0 := hFd q hq; have g1 := hFlt q hq; omega)
 replace hl := hl.keep hk11 (fun q hq hs => by have hs : q = b8 := hs; have g0 := hGd q hq; have g1 := hGlt q hq; omega)
 replace hrep := RepIn.keep hrep hk11 (fun q hq hs => by have hs : q = b8 := hs; have g1 := hDlt q hq; omega)
 replace hK0 := Keep.fr hK0 hk11
 refine On 9 [0, 1, 2, 4, 5, 9, 15] <| Oer <| Os 3 [(0, pt l),(1, pt v),(2, pt r),(4, nt of),(5, nt now),(9, pt b1),(24, .bool (!((trkO ts of).isSome)))] ?_
 cases hg15 : (!((trkO ts of).isSome))
 ·
  refine OI_eq [(0, pt l),(1, pt v),(2, pt r),(4, nt of),(5, nt now),(9, pt b1),(24, .bool false)] (by first | rfl | rw [hg15]) <| On 11 [0, 1, 2, 4, 5, 9, 32] <| La 0 (CA.cells c) 4 hb1 (take_all (CA.len _)) (CA.len _) <| Kk (isC_spec D c _ hrep) fun w16 hk17 _ => ?_
  replace hb1 := hb1.k0 hk17
  replace hR := hR.keep hk17 nk
  replace hV := hV.keep hk17 nk
  replace hl := hl.keep hk17 nk
  replace hrep := RepIn.keep hrep hk17 nk
  replace hK0 := hK0.tn hk17
  refine Oen [0, 1, 2, 4, 5, 9, 36] <| Vb (!(okCA 3 c)) (fun hc19 => ?_) (fun hc19 => ?_)
  ·
   refine Vn [12, 13] <| Rt ?_
   have hE : doD ts of now c u = ([], 1, u) := if_pos (.inr (by simpa using hc19))
   rw [hE]
   exact Xr (.tuple #[.slice none 0 0, nt 1]) ⟨none, 0, rfl, SlT.nil _ _ _, (fun q h => (inA_none h).elim), ⟨H, F, G, hR, hV, hl, hHr, hFr, hGr, hHF, hHG, hFG, fun q h => (inA_none h).elim, fun q h => (inA_none h).elim, fun q h => (inA_none h).elim⟩, hK0⟩
  refine Vsk <| Vr <| On 6 [9, 42] <| Bx 86 [pt l, pt v, pt r, nt of, nt now] ?_
  intro b20 w20 e20 hb20 k20 z20
  have hsz21 := Keep.size k20
  replace hb1 := hb1.k0 k20
  replace hR := hR.keep k20 nk
  replace hV := hV.keep k20 nk
  replace hl := hl.keep k20 nk
  replace hrep := RepIn.keep hrep k20 nk
  replace hK0 := hK0.tn k20
  have hb20lt := hb20.lt
  refine La 0 (CA.cells c) 4 hb1 (take_all (CA.len _)) (CA.len _) ?_
  have hokc : okCA 3 c = true := by simpa using hc19
  have hDo2 : ∀ q, D q → q < w20.heap.size ∧ ¬ H q ∧ ¬ F q ∧ ¬ G q := fun q hq => ⟨by have h1 := hDlt q hq; omega, (hDo q hq).2⟩
  have hdo2 : ¬ H b20 ∧ ¬ F b20 ∧ ¬ G b20 := ⟨fun h => by have h1 := hHl0 _ h; omega, fun h => by have h1 := hFl0 _ h; omega, fun h => by have h1 := hGl0 _ h; omega⟩
  refine Kg (does_spec b20 r g ts v l of now 3 (by omega) c hokc D H F G u _ hrep hb20 hR hV hl hHF hHG hFG hDo2 hdo2) ?_
  rintro _ w24 ⟨A26, cap26, rfl, hA26, ow26, ⟨F27, F30, F33, ho28, ho31, ho34, hfr29, hfr32, hfr35, hdis36, hdis37, hdis38, dA39, dA40, dA41⟩, hk25⟩
  refine ⟨_, rfl, ?_⟩
  have hsz42 := Keep.size hk25
  replace hK0 := Keep.fresh hK0 hk25 (fun i hi hs => by rcases hs with hs | hs | hs; (exact .inl hs); (rcases hFr i hs with h | h; exact .inr <| .inl h; (exfalso; omega)); (rcases hGr i hs with h | h; exact .inr <| .inr <| h; (exfalso; omega)))
  have own44 : ∀ q, F27 q → 0 ≤ q ∧ q ≠ b1 ∧ q ≠ b8 ∧ q ≠ b20 := fun q hq => by rcases hfr29 q hq with h | h; (have h1 := hHd q h; have h2 := hHlt q h; omega); omega
  have lt43 := Rfr.lt ho28
  have rel45 : ∀ q, F27 q → H q ∨ w.heap.size ≤ q := fun q hq => by rcases hfr29 q hq with h | h; exact hHr q h; exact .inr (by omega)
  have own47 : ∀ q, F30 q → 0 ≤ q ∧ q ≠ b1 ∧ q ≠ b8 ∧ q ≠ b20 := fun q hq => by rcases hfr32 q hq with h | h; (have h1 := hFd q h; have h2 := hFlt q h; omega); omega
  have lt46 := VotT.lt ho31
  have rel48 : ∀ q, F30 q → F q ∨ w.heap.size ≤ q := fun q hq => by rcases hfr32 q hq with h | h; exact hFr q h; exact .inr (by omega)
  have own50 : ∀ q, F33 q → 0 ≤ q ∧ q ≠ b1 ∧ q ≠ b8 ∧ q ≠ b20 := fun q hq => by rcases hfr35 q hq with h | h; (have h1 := hGd q h; have h2 := hGlt q h; omega); omega
  have lt49 := Led.lt ho34
  have rel51 : ∀ q, F33 q → G q ∨ w.heap.size ≤ q := fun q hq => by rcases hfr35 q hq with h | h; exact hGr q h; exact .inr (by omega)
  have ltA26 := SlT.lt hA26
  refine Oen [12, 13] <| V_ret ?_
  have hE : doD ts of now c u = doC ts of now 3 c u := if_neg (by rintro (h | h); (rw [h] at hg15; simp at hg15); (rw [h] at hokc; cases hokc))
  rw [hE]
  exact Xr (.tuple #[.slice A26 (((doC ts of now 3 c u).1).length) cap26, nt ((doC ts of now 3 c u).2.1)]) ⟨A26, cap26, rfl, hA26, (fun q h => by have h1 := ow26 q h; omega), ⟨F27, F30, F33, ho28, ho31, ho34, rel45, rel48, rel51, hdis36, hdis37, hdis38, (dA39),(dA40),(dA41)⟩, hK0⟩
 refine OI_eq [(0, pt l),(1, pt v),(2, pt r),(4, nt of),(5, nt now),(9, pt b1),(24, .bool true)] (by first | rfl | rw [hg15]) <| Oen [0, 1, 2, 4, 5, 9, 36] <| Vo <| Vn [12, 13] <| Rt ?_
 have hE : doD ts of now c u = ([], 1, u) := if_pos (.inl (by simpa using hg15))
 rw [hE]
 exact Xr (.tuple #[.slice none 0 0, nt 1]) ⟨none, 0, rfl, SlT.nil _ _ _, (fun q h => (inA_none h).elim), ⟨H, F, G, hR, hV, hl, hHr, hFr, hGr, hHF, hHG, hFG, fun q h => (inA_none h).elim, fun q h => (inA_none h).elim, fun q h => (inA_none h).elim⟩, hK0⟩
end Go.Al
namespace Go.Al
open Go Go.RowKit Go.Proofs
def actT0 : Trk := ⟨1, 20, 2, 10, 3, 1, ⟨1, 500000000, 500000000, 1, 0⟩, ⟨1, 0, 0, 1, 0⟩, 5, 0⟩
def actT1 : Trk := { actT0 with rank := 1, cap := 50 }
def actT2 : Trk := { actT0 with rank := 2, cap := 5000 }
def actTs : List Trk := [actT0, actT1, actT2]
theorem actTs_ok : okTs actTs := ⟨by decide, by decide, by decide⟩
def frA (fs : List Int) (i : Nat) : Int := match fs[i]? with | some x => i64.wrap (100 + bAnd x 1023) | none => 100
def frL (fs : List Int) (i : Nat) : List Int := (List.range i).map (frA fs)
theorem frL_len (fs : List Int) (i : Nat) : (frL fs i).length = i := by simp [frL]
theorem frL_step (fs : List Int) (i : Nat) : frL fs (i + 1) = frL fs i ++ [frA fs i] := by simp [frL, List.range_succ]
theorem frA_some {fs : List Int} {i : Nat} {x : Int} (h : fs[i]? = some x) : frA fs i = i64.wrap (100 + bAnd x 1023) := by unfold frA; rw [h]
theorem frA_none {fs : List Int} {i : Nat} (h : fs.length ≤ i) : frA fs i = 100 := by unfold frA; rw [List.getElem?_eq_none h]
theorem frA_bnd (fs : List Int) (i : Nat) : 100 ≤ frA fs i ∧ frA fs i ≤ 1123 := by
  unfold frA
  split
  · rename_i x _
    have h := bAnd_le x 1023 (by decide)
    have h2 : bAnd x ((1023 : Nat) : Int) = bAnd x 1023 := rfl
    rw [h2] at h
    rw [wrap64_id (by omega) (by omega)]; omega
  · omega
def frX (fs : List Int) : List Acc := newX (frL fs 10) 10
theorem frX_eq (fs : List Int) : frX fs = [⟨frA fs 0, 0⟩, ⟨frA fs 1, 0⟩, ⟨frA fs 2, 0⟩, ⟨frA fs 3, 0⟩, ⟨frA fs 4, 0⟩, ⟨frA fs 5, 0⟩, ⟨frA fs 6, 0⟩, ⟨frA fs 7, 0⟩, ⟨frA fs 8, 0⟩, ⟨frA fs 9, 0⟩] := rfl
theorem frL_ok (fs : List Int) : okP (frL fs 10) := by
  refine ⟨by rw [frL_len]; omega, fun x hx => ?_, ?_⟩
  · obtain ⟨i, _, rfl⟩ := List.mem_map.1 hx
    have := frA_bnd fs i; omega
  · show tot (frX fs) ≤ _
    rw [frX_eq]
    have h := frA_bnd fs
    have h0 := h 0; have h1 := h 1; have h2 := h 2; have h3 := h 3; have h4 := h 4; have h5 := h 5; have h6 := h 6; have h7 := h 7; have h8 := h 8; have h9 := h 9
    simp only [tot]; omega
def acQ (fs : List Int) : RW := ⟨frX fs, [], VS.zero, []⟩
theorem new_okA (A : Option Addr) (cap : Nat) (fs : List Int) (w : World) (hA : ArgT w 1 intc A cap fs) (hn : fs.length ≤ 100000) (hok : okP fs) : Calls Tryz.prog 17 #[.slice A fs.length cap] w fun e w' => ∃ l F, e = .returned (.tuple #[pt l, nt 0]) ∧ Led F w' l (newX fs 10) [] ∧ Keep none_ w w' ∧ (∀ q, F q → w.heap.size ≤ q) :=
  (new_spec6 A cap fs w hA hn).mono (by
    rintro e w' (⟨_, h⟩ | ⟨h, _⟩)
    · exact h
    · exact absurd hok h)
theorem SlT.ofE {α : Type} {w : World} {sz cap : Nat} {f : α → List Value} {A : Option Addr} {xs ys : List α} (h : SlT w sz f A cap xs) (e : xs = ys) : SlT w sz f A cap ys := e ▸ h
theorem flat_spec (a : Int) (w : World) : Calls Tryz.prog 46 #[nt a] w fun e w' => e = .returned (.agg (Crv.cells ⟨1, a, a, 1, 0⟩).toArray) ∧ Keep none_ w w' := by
 have hK0 := Keep.refl none_ w
 refine enterM Tryz.func46 rfl [nt a] 6 rfl rfl rfl ?_
 refine Vp [(0, nt a)] <| Vr <| Alc_ 78 (.agg #[nt 0, nt 0, nt 0, nt 0, nt 0]) [nt 0, nt 0, nt 0, nt 0, nt 0] ?_
 intro b1 w1 e1 hb1 k1 z1
 have hsz2 := Keep.size k1
 replace hK0 := hK0.tn k1
 have hb1lt := hb1.lt
 refine Oer <| Os 3 [(2, pt b1),(5, .agg (Crv.cells (Crv.mk 1 a a 1 0)).toArray)] <| Sg 0 (Crv.cells (Crv.mk 1 a a 1 0)) hb1 (Crv.len _) (Crv.one _) ?_
 intro w3 hb1_6 hk4 hz5
 replace hb1_6 : Blk w3 b1 (Crv.cells (Crv.mk 1 a a 1 0)) 78 := (by rwa [over_whole (by rw [Crv.len]; rfl)] at hb1_6)
 have hsz7 := Keep.size hk4
 replace hK0 := Keep.fr hK0 hk4
 refine Oe <| V_ret ?_
 exact leave0 (.agg (Crv.cells ⟨1, a, a, 1, 0⟩).toArray) (.inl rfl) (res_agg1 (m := 5) rfl rfl (by kernel_rfl) hb1_6 rfl) ⟨rfl, hK0⟩
set_option maxHeartbeats 2000000 in
theorem tracks_spec (w : World) : Calls Tryz.prog 20 #[] w fun e w' => ∃ A cap, e = .returned (.slice A 3 cap) ∧ SlT w' 18 Trk.cells A cap actTs ∧ (∀ q, inA A q → w.heap.size ≤ q) ∧ Keep none_ w w' := by
 have hK0 := Keep.refl none_ w
 refine eV ?_
 refine Vr <| On 1 [] <| Oer <| Kk (flat_spec 500000000 _) fun w1 hk2 _ => ?_
 replace hK0 := hK0.tn hk2
 refine Kk (flat_spec 0 _) fun w4 hk5 _ => ?_
 replace hK0 := hK0.tn hk5
 refine On 3 [6] <| Alc_ 80 (.agg (Trk.cells Trk.zero).toArray) (Trk.cells Trk.zero) ?_
 intro b7 w7 e7 hb7 k7 z7
 have hsz8 := Keep.size k7
 replace hK0 := hK0.tn k7
 have hb7lt := hb7.lt
 refine Sg 0 (Trk.cells actT0) hb7 (Trk.len _) (Trk.one _) ?_
 intro w9 hb7_12 hk10 hz11
 replace hb7_12 : Blk w9 b7 (Trk.cells actT0) 80 := (Blk.eqL (Trk.over _ _) hb7_12)
 have hsz13 := Keep.size hk10
 replace hK0 := Keep.fr hK0 hk10
 refine Oe <| V_seq <| Vd (acts [2, 3, 4, 5]) none_ [[2, 3, 0, 4, 1, 5], [3, 2, 0, 4, 1, 5]] ?_
 intro w15 hk14 he16 L hL17
 have hsz18 := Keep.size hk14
 replace hb7_12 := hb7_12.k0 hk14
 replace hK0 := hK0.tn hk14
 have qhb7_12 := hb7_12
 have K19 : Keep none_ w15 w15 := Keep.refl _ _
 simp only [List.mem_cons, List.not_mem_nil, or_false] at hL17
 rcases hL17 with rfl | rfl
 ·
  refine GI_alloc 80 (.agg (Trk.cells Trk.zero).toArray) (Trk.cells Trk.zero) (some 2) (by kernel_rfl) (by kernel_rfl) K19 (by kernel_rfl) (by kernel_rfl) ?_
  intro b20 w20 e20 hb20 k20 z20 K21
  have hsz22 := Keep.size k20
  replace hK0 := hK0.tn k20
  have hb20lt := hb20.lt
  refine GI_alloc 80 (.agg (Trk.cells Trk.zero).toArray) (Trk.cells Trk.zero) (some 3) (by kernel_rfl) (by kernel_rfl) K21 (by kernel_rfl) (by kernel_rfl) ?_
  intro b23 w23 e23 hb23 k23 z23 K24
  have hsz25 := Keep.size k23
  replace hb7_12 := hb7_12.k0 (k20.tr k23)
  replace hb20 := hb20.k0 k23
  replace hK0 := hK0.tn k23
  have hb23lt := hb23.lt
  refine Ma 0 (Trk.cells actT0) 18 qhb7_12 id (take_all (Trk.len _)) (Trk.len _) <| GI_set (m := 18) (kd := true) 80 (.tmp 2) (.tmp 7) 0 (.agg (Trk.cells actT0).toArray) (Trk.cells actT0) none (by kernel_rfl) (by kernel_rfl) (by kernel_rfl) (by kernel_rfl) hb20 (by kernel_rfl) rfl (Trk.len _) (Nat.le_of_ble_eq_true (by kernel_rfl)) (Trk.one _) K24 (fun hh => absurd hh (by omega)) ?_
  intro w26 hb20_29 hk27 hz28 K30
  replace hb20_29 : Blk w26 b20 (Trk.cells actT0) 80 := (Blk.eqL (Trk.over _ _) hb20_29)
  have hsz31 := Keep.size hk27
  replace hb7_12 := hb7_12.k1 hk27
  replace hb23 := hb23.k1 hk27
  replace hK0 := Keep.fr hK0 hk27
  refine Ma 0 (Trk.cells actT0) 18 qhb7_12 id (take_all (Trk.len _)) (Trk.len _) <| GI_final 5 (by kernel_rfl) (by kernel_rfl) <| Sg 0 (Trk.cells actT0) hb23 (Trk.len _) (Trk.one _) ?_
  intro w32 hb23_35 hk33 hz34
  replace hb23_35 : Blk w32 b23 (Trk.cells actT0) 80 := (Blk.eqL (Trk.over _ _) hb23_35)
  have hsz36 := Keep.size hk33
  replace hb7_12 := hb7_12.k1 hk33
  replace hb20_29 := hb20_29.k1 hk33
  replace hK0 := Keep.fr hK0 hk33
  refine Oer <| On 1 [1, 2, 3, 9] <| St_ 17 (nt 1) hb20_29 ?_
  intro w37 hb20_40 hk38 hz39
  replace hb20_40 : Blk w37 b20 (Trk.cells { actT0 with rank := 1 }) 80 := (Blk.eqL (by kernel_rfl) hb20_40)
  have hsz41 := Keep.size hk38
  replace hb7_12 := hb7_12.k1 hk38
  replace hb23_35 := hb23_35.k1 hk38
  replace hK0 := Keep.fr hK0 hk38
  refine On 3 [1, 2, 3, 10] <| St_ 16 (nt 50) hb20_40 ?_
  intro w42 hb20_45 hk43 hz44
  replace hb20_45 : Blk w42 b20 (Trk.cells { actT0 with rank := 1, cap := 50 }) 80 := (Blk.eqL (by kernel_rfl) hb20_45)
  have hsz46 := Keep.size hk43
  replace hb7_12 := hb7_12.k1 hk43
  replace hb23_35 := hb23_35.k1 hk43
  replace hK0 := Keep.fr hK0 hk43
  refine Oer <| On 1 [1, 2, 3, 11] <| St_ 17 (nt 2) hb23_35 ?_
  intro w47 hb23_50 hk48 hz49
  replace hb23_50 : Blk w47 b23 (Trk.cells { actT0 with rank := 2 }) 80 := (Blk.eqL (by kernel_rfl) hb23_50)
  have hsz51 := Keep.size hk48
  replace hb7_12 := hb7_12.k1 hk48
  replace hb20_45 := hb20_45.k1 hk48
  replace hK0 := Keep.fr hK0 hk48
  refine On 3 [1, 2, 3, 12] <| St_ 16 (nt 5000) hb23_50 ?_
  intro w52 hb23_55 hk53 hz54
  replace hb23_55 : Blk w52 b23 (Trk.cells { actT0 with rank := 2, cap := 5000 }) 80 := (Blk.eqL (by kernel_rfl) hb23_55)
  have hsz56 := Keep.size hk53
  replace hb7_12 := hb7_12.k1 hk53
  replace hb20_45 := hb20_45.k1 hk53
  replace hK0 := Keep.fr hK0 hk53
  refine Oer <| La 0 (Trk.cells actT0) 18 hb7_12 (take_all (Trk.len _)) (Trk.len _) <| La 0 (Trk.cells { actT0 with rank := 1, cap := 50 }) 18 hb20_45 (take_all (Trk.len _)) (Trk.len _) <| La 0 (Trk.cells { actT0 with rank := 2, cap := 5000 }) 18 hb23_55 (take_all (Trk.len _)) (Trk.len _) <| OI_slit (E := 80) (zv := .agg #[nt 0, nt 0, nt 0, nt 0, nt 0, nt 0, nt 0, nt 0, nt 0, nt 0, nt 0, nt 0, nt 0, nt 0, nt 0, nt 0, nt 0, nt 0]) (sz := 18) (by_ := 144) 67 3 #[(0, (Operand.tmp 13)),(1, (Operand.tmp 14)),(2, (Operand.tmp 15))] [.agg (Trk.cells actT0).toArray, .agg (Trk.cells { actT0 with rank := 1, cap := 50 }).toArray, .agg (Trk.cells { actT0 with rank := 2, cap := 5000 }).toArray] ([actT0, { actT0 with rank := 1, cap := 50 }, { actT0 with rank := 2, cap := 5000 }].flatMap Trk.cells) (some 16) (by kernel_rfl) (by kernel_rfl) (by kernel_rfl) (by omega) rfl (by omega) (by intro v hv; simp only [List.mem_cons, List.not_mem_nil, or_false] at hv; rcases hv with rfl | rfl | rfl <;> rfl) (by kernel_rfl) rfl ?_
  intro b57 w57 e57 hb57 k57 z57
  have hsz58 := Keep.size k57
  replace hK0 := hK0.tn k57
  have hb57lt := hb57.lt
  refine Ose [(0, sl_ b57 0 3 3)] <| V_ret ?_
  exact X_return _ rfl ⟨_, _, rfl, slt_blk (xs := actTs) hb57 Trk.len rfl, (fun q h => by have h3 := inA_some h; omega), hK0⟩
 ·
  refine GI_alloc 80 (.agg (Trk.cells Trk.zero).toArray) (Trk.cells Trk.zero) (some 3) (by kernel_rfl) (by kernel_rfl) K19 (by kernel_rfl) (by kernel_rfl) ?_
  intro b59 w59 e59 hb59 k59 z59 K60
  have hsz61 := Keep.size k59
  replace hK0 := hK0.tn k59
  have hb59lt := hb59.lt
  refine GI_alloc 80 (.agg (Trk.cells Trk.zero).toArray) (Trk.cells Trk.zero) (some 2) (by kernel_rfl) (by kernel_rfl) K60 (by kernel_rfl) (by kernel_rfl) ?_
  intro b62 w62 e62 hb62 k62 z62 K63
  have hsz64 := Keep.size k62
  replace hb7_12 := hb7_12.k0 (k59.tr k62)
  replace hb59 := hb59.k0 k62
  replace hK0 := hK0.tn k62
  have hb62lt := hb62.lt
  refine Ma 0 (Trk.cells actT0) 18 qhb7_12 id (take_all (Trk.len _)) (Trk.len _) <| GI_set (m := 18) (kd := true) 80 (.tmp 2) (.tmp 7) 0 (.agg (Trk.cells actT0).toArray) (Trk.cells actT0) none (by kernel_rfl) (by kernel_rfl) (by kernel_rfl) (by kernel_rfl) hb62 (by kernel_rfl) rfl (Trk.len _) (Nat.le_of_ble_eq_true (by kernel_rfl)) (Trk.one _) K63 (fun hh => absurd hh (by omega)) ?_
  intro w65 hb62_68 hk66 hz67 K69
  replace hb62_68 : Blk w65 b62 (Trk.cells actT0) 80 := (Blk.eqL (Trk.over _ _) hb62_68)
  have hsz70 := Keep.size hk66
  replace hb7_12 := hb7_12.k1 hk66
  replace hb59 := hb59.k1 hk66
  replace hK0 := Keep.fr hK0 hk66
  refine Ma 0 (Trk.cells actT0) 18 qhb7_12 id (take_all (Trk.len _)) (Trk.len _) <| GI_final 5 (by kernel_rfl) (by kernel_rfl) <| Sg 0 (Trk.cells actT0) hb59 (Trk.len _) (Trk.one _) ?_
  intro w71 hb59_74 hk72 hz73
  replace hb59_74 : Blk w71 b59 (Trk.cells actT0) 80 := (Blk.eqL (Trk.over _ _) hb59_74)
  have hsz75 := Keep.size hk72
  replace hb7_12 := hb7_12.k1 hk72
  replace hb62_68 := hb62_68.k1 hk72
  replace hK0 := Keep.fr hK0 hk72
  refine Oer <| On 1 [1, 2, 3, 9] <| St_ 17 (nt 1) hb62_68 ?_
  intro w76 hb62_79 hk77 hz78
  replace hb62_79 : Blk w76 b62 (Trk.cells { actT0 with rank := 1 }) 80 := (Blk.eqL (by kernel_rfl) hb62_79)
  have hsz80 := Keep.size hk77
  replace hb7_12 := hb7_12.k1 hk77
  replace hb59_74 := hb59_74.k1 hk77
  replace hK0 := Keep.fr hK0 hk77
  refine On 3 [1, 2, 3, 10] <| St_ 16 (nt 50) hb62_79 ?_
  intro w81 hb62_84 hk82 hz83
  replace hb62_84 : Blk w81 b62 (Trk.cells { actT0 with rank := 1, cap := 50 }) 80 := (Blk.eqL (by kernel_rfl) hb62_84)
  have hsz85 := Keep.size hk82
  replace hb7_12 := hb7_12.k1 hk82
  replace hb59_74 := hb59_74.k1 hk82
  replace hK0 := Keep.fr hK0 hk82
  refine Oer <| On 1 [1, 2, 3, 11] <| St_ 17 (nt 2) hb59_74 ?_
  intro w86 hb59_89 hk87 hz88
  replace hb59_89 : Blk w86 b59 (Trk.cells { actT0 with rank := 2 }) 80 := (Blk.eqL (by kernel_rfl) hb59_89)
  have hsz90 := Keep.size hk87
  replace hb7_12 := hb7_12.k1 hk87
  replace hb62_84 := hb62_84.k1 hk87
  replace hK0 := Keep.fr hK0 hk87
  refine On 3 [1, 2, 3, 12] <| St_ 16 (nt 5000) hb59_89 ?_
  intro w91 hb59_94 hk92 hz93
  replace hb59_94 : Blk w91 b59 (Trk.cells { actT0 with rank := 2, cap := 5000 }) 80 := (Blk.eqL (by kernel_rfl) hb59_94)
  have hsz95 := Keep.size hk92
  replace hb7_12 := hb7_12.k1 hk92
  replace hb62_84 := hb62_84.k1 hk92
  replace hK0 := Keep.fr hK0 hk92
  refine Oer <| La 0 (Trk.cells actT0) 18 hb7_12 (take_all (Trk.len _)) (Trk.len _) <| La 0 (Trk.cells { actT0 with rank := 1, cap := 50 }) 18 hb62_84 (take_all (Trk.len _)) (Trk.len _) <| La 0 (Trk.cells { actT0 with rank := 2, cap := 5000 }) 18 hb59_94 (take_all (Trk.len _)) (Trk.len _) <| OI_slit (E := 80) (zv := .agg #[nt 0, nt 0, nt 0, nt 0, nt 0, nt 0, nt 0, nt 0, nt 0, nt 0, nt 0, nt 0, nt 0, nt 0, nt 0, nt 0, nt 0, nt 0]) (sz := 18) (by_ := 144) 67 3 #[(0, (Operand.tmp 13)),(1, (Operand.tmp 14)),(2, (Operand.tmp 15))] [.agg (Trk.cells actT0).toArray, .agg (Trk.cells { actT0 with rank := 1, cap := 50 }).toArray, .agg (Trk.cells { actT0 with rank := 2, cap := 5000 }).toArray] ([actT0, { actT0 with rank := 1, cap := 50 }, { actT0 with rank := 2, cap := 5000 }].flatMap Trk.cells) (some 16) (by kernel_rfl) (by kernel_rfl) (by kernel_rfl) (by omega) rfl (by omega) (by intro v hv; simp only [List.mem_cons, List.not_mem_nil, or_false] at hv; rcases hv with rfl | rfl | rfl <;> rfl) (by kernel_rfl) rfl ?_
  intro b96 w96 e96 hb96 k96 z96
  have hsz97 := Keep.size k96
  replace hK0 := hK0.tn k96
  have hb96lt := hb96.lt
  refine Ose [(0, sl_ b96 0 3 3)] <| V_ret ?_
  exact X_return _ rfl ⟨_, _, rfl, slt_blk (xs := actTs) hb96 Trk.len rfl, (fun q h => by have h3 := inA_some h; omega), hK0⟩
end Go.Al
namespace Go.Al
open Go Go.RowKit Go.Proofs
set_option maxHeartbeats 2000000 in
theorem begin0 (A : Option Addr) (cap : Nat) (fs : List Int) (w : World) (hA0 : ArgT w 1 intc A cap fs) (hn : fs.length ≤ 100000) : Calls Tryz.prog 9 #[.slice A fs.length cap, nt 0] w fun e w' => ∃ b r g v l H F G xv yv zv, e = .returned (pt b) ∧ Blk w' b [pt l, pt v, pt r, .pointer xv, .pointer yv, .pointer zv] 38 ∧ Rfr H w' r g actTs [] ∧ VotT F w' v VS.zero ∧ Led G w' l (frX fs) [] ∧ Keep none_ w w' ∧ w.heap.size ≤ b ∧ (∀ q, H q → w.heap.size ≤ q ∧ q ≠ b) ∧ (∀ q, F q → w.heap.size ≤ q ∧ q ≠ b) ∧ (∀ q, G q → w.heap.size ≤ q ∧ q ≠ b) ∧ (∀ q, H q → ¬ F q) ∧ (∀ q, H q → ¬ G q) ∧ (∀ q, F q → ¬ G q) := by
 have hA := hA0
 have hK0 := Keep.refl none_ w
 refine eV ?_
 refine Vr <| On 1 [0, 1] <| Oer <| On 1 [0, 1, 5] <| Oe <| V_seq <| Vn [0, 1, 5, 6] <| V_block <| Vp [(0, .slice A fs.length cap),(1, nt 0),(5, .slice none 0 0),(6, nt 0)] <| V_loop (fun k wI e => ∃ i : Nat, ∃ A2 : Option Addr, ∃ cap2 : Nat, ∃ ms : List Int, (k + i = 10) ∧ (i ≤ 10) ∧ (ms = frL fs i) ∧ (SlT wI 1 intc A2 cap2 ms) ∧ (∀ q, inA A2 q → w.heap.size ≤ q) ∧ Keep none_ w wI ∧ e = [(0, .slice A fs.length cap),(1, nt 0),(5, .slice A2 ms.length cap2),(6, nt (i : Int))]) 10 ⟨0, none, 0, [], by omega, by omega, rfl, SlT.nil _ _ _, fun q h => (inA_none h).elim, Keep.refl _ _, rfl⟩ ?_
 rintro k2 w1 _ ⟨i, A2, cap2, ms, hki, hi10, hms, hA2, ow2, hk3, rfl⟩
 have hsz4 := Keep.size hk3
 replace hA := ArgT.keep0 hA hk3
 replace hK0 := hK0.tn hk3
 have hzhk3 := Keep.size hk3
 have lt2 := SlT.lt hA2
 have hml : ms.length = i := by rw [hms, frL_len]
 refine V_seq <| Vn [0, 1, 5, 6, 18] <| Vi ((i : Int) < 10) (fun hc5 => ?_) (fun hc5 => ?_)
 ·
  refine Vsk <| V_seq <| V_block <| Vr <| On 1 [0, 1, 6, 21] <| OI_slit (E := 3) (zv := nt 0) (sz := 1) (by_ := 8) 49 1 #[(0, (Operand.const (Value.int IntKind.i64 100)))] [nt 100] [nt 100] (some 22) (by kernel_rfl) (by kernel_rfl) (by kernel_rfl) (by omega) rfl (by omega) (by intro v hv; simp only [List.mem_cons, List.not_mem_nil, or_false] at hv; rcases hv with rfl <;> rfl) (by kernel_rfl) rfl ?_
  intro b6 w6 e6 hb6 k6 z6
  have hsz7 := Keep.size k6
  replace hA := ArgT.keep0 hA k6
  replace hA2 := hA2.keep0 k6
  replace hk3 := hk3.tn k6
  have hb6lt := hb6.lt
  refine OI_append (t := 49) (at2 := 49) (E := 3) (E2 := 3) (sz := 1) (by_ := 8) (zv := nt 0) (m := ms.length) (k := 1) (.tmp 21) (.tmp 22) (.slice A2 ms.length cap2) (sl_ b6 0 1 1) (some 23) (by kernel_rfl) (by kernel_rfl) (by kernel_rfl) (by kernel_rfl) (by kernel_rfl) (by kernel_rfl) (by kernel_rfl) (SlT.slr hA2) (slr_one hb6 (intc_len 100)) (intc_one 100) (by first | omega | (simp only [List.length_nil]; omega)) (by omega) (by first | omega | (simp only [List.length_nil]; omega)) (by omega) ?_
  intro vv9 w8 hap
  obtain ⟨A8, cap8, rfl, hA8, hk8, own8x⟩ := app_one (f := intc) (xs := ms) (x := 100) (A := A2) (cap := cap2) hap (fun x _ => intc_len x) (intc_len _)
  have own8 : ∀ q, inA A8 q → w.heap.size ≤ q := fun q hq => by rcases own8x q hq with h | h; exact ow2 q h; (show w.heap.size ≤ q; omega)
  have hsz9 := Keep.size hk8
  replace hA := ArgT.keep hA hk8 hA0 (fun k hk hs => by have h1 := ow2 k hs; have h2 := lt2 k hs; omega)
  replace hk3 := Keep.fresh hk3 hk8 (by intro i hi hs; first | exact hs | (exfalso; have h1 := ow2 i hs; have h2 := lt2 i hs; omega) | (have h1 := ow2 i hs; have h2 := lt2 i hs; show _ ∨ _; omega))
  have lt8 := SlT.lt hA8
  refine On 4 [0, 1, 5, 6] <| Oer <| Oen [0, 1, 5, 6, 27] <| Vi ((i : Int) < (fs.length : Int)) (fun hc10 => ?_) (fun hc10 => ?_)
  ·
   have hapl : (ms ++ [100]).length = i + 1 := by rw [List.length_append, hml]; rfl
   refine V_region <| On 4 [0, 1, 5, 6, 28, 29, 30, 31] ?_
   obtain ⟨b11, o11, L11, rfl, hat11⟩ := ArgT.open_ hA (by first | omega | (simp only [List.length_map]; omega) | (simp; done) | (simp; omega))
   have hb11lt0 := ArgT.lt hA0 (by first | omega | (simp only [List.length_map]; omega) | (simp; done) | (simp; omega))
   have hb11lt := hat11.blk.lt
   refine Oi (b := b11) (o := o11) (len := fs.length) (cap := cap) (j := i) (some 32) 49 (.tmp 30) (.tmp 31) 3 1 8 .i64 ?_
   obtain ⟨x12, hx13⟩ := exAt (xs := fs) (i := i)
   refine OI_cellR 3 (.tmp 32) (o11 + i * 1) (nt x12) (some 33) (by kernel_rfl) (by kernel_rfl) hat11.blk (m := 1) (by kernel_rfl) (AtR.cell0 hat11 (es_at hx13) rfl) <| Os 8 [(0, sl_ b11 o11 fs.length cap),(1, nt 0),(5, .slice A8 ((ms ++ [100]).length) cap8),(6, nt (i : Int)),(28, .slice A8 ((ms ++ [100]).length) cap8),(29, nt (i : Int)),(35, nt (i64.wrap (100 + (bAnd x12 1023))))] ?_
   obtain ⟨b14, o14, L14, T14, rfl, hat14⟩ := SlT.opn hA8
   have hb14lt := hat14.blk.lt
   have hob15 := own8 b14 ⟨_, rfl, rfl⟩
   have hob16 := lt8 b14 ⟨_, rfl, rfl⟩
   refine Oi (b := b14) (o := o14) (len := (ms ++ [100]).length) (cap := cap8) (j := i) (some 36) 49 (.tmp 28) (.tmp 29) 3 1 8 .i64 ?_
   obtain ⟨x17, hx18⟩ := exAt (xs := ms ++ [100]) (i := i)
   refine Ts1 (i64.wrap (100 + (bAnd x12 1023)) : Int) 0 (nt (i64.wrap (100 + (bAnd x12 1023)))) hat14 hx18 (by simp [intc, over]) ?_
   intro w19 hat23 hk21 hz22 hlhx24 hx24
   have hsz25 := Keep.size hk21
   replace hk3 := Keep.fr hk3 hk21
   refine Op_ [(0, sl_ b11 o11 fs.length cap),(1, nt 0),(5, sl_ b14 o14 ((ms ++ [100]).length) cap8),(6, nt (i : Int))] <| Oq (u := sl_ b14 o14 ((ms ++ [100]).length) cap8) (v := sl_ b14 o14 (((ms ++ [100]).set i (i64.wrap (100 + (bAnd x12 1023)))).length) cap8) 5 (by rw [List.length_set]) <| OI_end rfl <| X_block <| X_then <| V_region ?_
   have hw26 : i64.wrap ((i : Int) + 1) = ((i + 1 : Nat) : Int) := wrp
   refine On 2 [0, 1, 5, 20] <| Oq (u := nt (i64.wrap ((i : Int) + 1))) (v := nt ((i + 1 : Nat) : Int)) 20 (by rw [hw26]) <| Os 3 [(0, sl_ b11 o11 fs.length cap),(1, nt 0),(5, sl_ b14 o14 (((ms ++ [100]).set i (i64.wrap (100 + (bAnd x12 1023)))).length) cap8),(6, nt ((i + 1 : Nat) : Int))] <| OI_end rfl ?_
   exact V_again (k2 - 1) (by omega) [(0, sl_ b11 o11 fs.length cap),(1, nt 0),(5, sl_ b14 o14 (((ms ++ [100]).set i (i64.wrap (100 + (bAnd x12 1023)))).length) cap8),(6, nt ((i + 1 : Nat) : Int))] rfl ⟨i + 1, (some ⟨b14, o14, none⟩), cap8, (ms ++ [100]).set i (i64.wrap (100 + (bAnd x12 1023))), by omega, by omega, by rw [frL_step, ← hms, frA_some hx13, ← hml]; simp, At.slt hat23, (fun q h => by have h3 := inA_some h; omega), hk3, rfl⟩
  have hapl : (ms ++ [100]).length = i + 1 := by rw [List.length_append, hml]; rfl
  refine V_skip <| X_block <| X_then <| V_region ?_
  have hw27 : i64.wrap ((i : Int) + 1) = ((i + 1 : Nat) : Int) := wrp
  refine On 2 [0, 1, 5, 20] <| Oq (u := nt (i64.wrap ((i : Int) + 1))) (v := nt ((i + 1 : Nat) : Int)) 20 (by rw [hw27]) <| Os 3 [(0, .slice A fs.length cap),(1, nt 0),(5, .slice A8 ((ms ++ [100]).length) cap8),(6, nt ((i + 1 : Nat) : Int))] <| OI_end rfl ?_
  exact V_again (k2 - 1) (by omega) [(0, .slice A fs.length cap),(1, nt 0),(5, .slice A8 ((ms ++ [100]).length) cap8),(6, nt ((i + 1 : Nat) : Int))] rfl ⟨i + 1, A8, cap8, ms ++ [100], by omega, by omega, by rw [frL_step, ← hms, frA_none (by omega)], hA8, own8, hk3, rfl⟩
 refine V_exit <| X_exit_then <| X_exit_then <| X_exit_here <| X_then <| Vr <| On 1 [1, 5, 38] ?_
 have hie : i = 10 := by omega
 replace hms : ms = frL fs 10 := by rw [hms, hie]
 refine Kg (new_okA A2 cap2 ms _ (SlT.arg hA2) (by omega) (by rw [hms]; exact frL_ok fs)) ?_
 rintro _ w28 ⟨l30, F31, rfl, ho32, hk29, hge33⟩
 refine ⟨_, rfl, ?_⟩
 have hsz34 := Keep.size hk29
 replace hA2 := hA2.keep0 hk29
 replace hK0 := hK0.tn hk29
 replace ho32 : Led F31 w28 l30 (frX fs) [] := by rw [hms] at ho32; exact ho32
 have own35 : ∀ q, F31 q → w1.heap.size ≤ q := fun q hq => by have h1 := hge33 q hq; omega
 have lt36 := Led.lt ho32
 have dis37 : ∀ q, F31 q → ¬ inA A2 q := fun q h1 h2 => by have h3 := hge33 q h1; have h4 := lt2 q h2; omega
 have hl30lt : l30 < w28.heap.size := Led.lt ho32 _ (Led.at_ ho32)
 have hl30ge := hge33 _ (Led.at_ ho32)
 refine On 7 [1, 5, 7, 8] <| Oer <| On 1 [1, 7, 8, 43] <| Kg (rnew6_weak A2 cap2 ms _ (SlT.arg hA2) (by omega)) ?_
 rintro _ w38 ⟨pv40, n41, rfl, hk39⟩
 refine ⟨_, rfl, ?_⟩
 have hsz42 := Keep.size hk39
 replace hK0 := hK0.tn hk39
 replace ho32 := ho32.keep hk39 nk
 refine On 7 [1, 7, 8, 9] <| Oer <| Kg (tracks_spec _) ?_
 rintro _ w43 ⟨A45, cap45, rfl, hA45, ow45, hk44⟩
 refine ⟨_, rfl, ?_⟩
 have hsz46 := Keep.size hk44
 replace hK0 := hK0.tn hk44
 replace ho32 := ho32.keep hk44 nk
 have lt45 := SlT.lt hA45
 have dis47 : ∀ q, inA A45 q → ¬ F31 q := fun q h1 h2 => by have h3 := ow45 q h1; have h4 := lt36 q h2; omega
 refine Kg (rnw_spec A45 cap45 actTs _ hA45 actTs_ok) ?_
 rintro _ w48 ⟨r50, gg54, H51, rfl, hR52, hk49, hge53⟩
 refine ⟨_, rfl, ?_⟩
 have hsz55 := Keep.size hk49
 replace hK0 := hK0.tn hk49
 replace ho32 := ho32.keep hk49 nk
 have own56 : ∀ q, H51 q → w43.heap.size ≤ q := fun q hq => by have h1 := hge53 q hq; omega
 have lt57 := Rfr.lt hR52
 have dis58 : ∀ q, H51 q → ¬ inA A2 q := fun q h1 h2 => by have h3 := hge53 q h1; have h4 := lt2 q h2; omega
 have dis59 : ∀ q, H51 q → ¬ inA A45 q := fun q h1 h2 => by have h3 := hge53 q h1; have h4 := lt45 q h2; omega
 have dis60 : ∀ q, H51 q → ¬ F31 q := fun q h1 h2 => by have h3 := hge53 q h1; have h4 := lt36 q h2; omega
 have hr50lt : r50 < w48.heap.size := Rfr.lt hR52 _ (Rfr.at_ hR52)
 have hr50ge := hge53 _ (Rfr.at_ hR52)
 refine On 7 [1, 7, 8, 9, 11, 12] <| Oer <| Kg (tracks_spec _) ?_
 rintro _ w61 ⟨A63, cap63, rfl, hA63, ow63, hk62⟩
 refine ⟨_, rfl, ?_⟩
 have hsz64 := Keep.size hk62
 replace hK0 := hK0.tn hk62
 replace ho32 := ho32.keep hk62 nk
 replace hR52 := hR52.keep hk62 nk
 have lt63 := SlT.lt hA63
 have dis65 : ∀ q, inA A63 q → ¬ F31 q := fun q h1 h2 => by have h3 := ow63 q h1; have h4 := lt36 q h2; omega
 have dis66 : ∀ q, inA A63 q → ¬ H51 q := fun q h1 h2 => by have h3 := ow63 q h1; have h4 := lt57 q h2; omega
 refine Kg (rnew12_weak A63 cap63 actTs _ hA63 actTs_ok) ?_
 rintro _ w67 ⟨pv69, rfl, hk68⟩
 refine ⟨_, rfl, ?_⟩
 have hsz70 := Keep.size hk68
 replace hK0 := hK0.tn hk68
 replace ho32 := ho32.keep hk68 nk
 replace hR52 := hR52.keep hk68 nk
 refine On 7 [1, 7, 8, 9, 11, 12, 13] <| Oer <| On 1 [1, 7, 8, 9, 11, 12, 13, 57] <| Kg (new_votT _) ?_
 rintro _ w73 ⟨g75, F76, rfl, ho77, hk74, hge78⟩
 refine ⟨_, rfl, ?_⟩
 have hsz79 := Keep.size hk74
 replace hK0 := hK0.tn hk74
 replace ho32 := ho32.keep hk74 nk
 replace hR52 := hR52.keep hk74 nk
 have own80 : ∀ q, F76 q → w67.heap.size ≤ q := fun q hq => by have h1 := hge78 q hq; omega
 have lt81 := VotT.lt ho77
 have dis82 : ∀ q, F76 q → ¬ inA A2 q := fun q h1 h2 => by have h3 := hge78 q h1; have h4 := lt2 q h2; omega
 have dis83 : ∀ q, F76 q → ¬ inA A45 q := fun q h1 h2 => by have h3 := hge78 q h1; have h4 := lt45 q h2; omega
 have dis84 : ∀ q, F76 q → ¬ inA A63 q := fun q h1 h2 => by have h3 := hge78 q h1; have h4 := lt63 q h2; omega
 have dis85 : ∀ q, F76 q → ¬ F31 q := fun q h1 h2 => by have h3 := hge78 q h1; have h4 := lt36 q h2; omega
 have dis86 : ∀ q, F76 q → ¬ H51 q := fun q h1 h2 => by have h3 := hge78 q h1; have h4 := lt57 q h2; omega
 have hg75lt : g75 < w73.heap.size := VotT.lt ho77 _ (VotT.at_ ho77)
 have hg75ge := hge78 _ (VotT.at_ ho77)
 refine On 4 [1, 7, 8, 11, 12, 13, 57, 58, 59, 60] <| Kg (rnew11_weak _) ?_
 rintro _ w87 ⟨pv89, rfl, hk88⟩
 refine ⟨_, rfl, ?_⟩
 have hsz90 := Keep.size hk88
 replace hK0 := hK0.tn hk88
 replace ho32 := ho32.keep hk88 nk
 replace hR52 := hR52.keep hk88 nk
 replace ho77 := ho77.keep hk88 nk
 refine On 7 [1, 7, 8, 11, 12, 63] <| Bx 38 [pt l30, pt g75, pt r50, .pointer pv40, .pointer pv89, .pointer pv69] ?_
 intro b91 w91 e91 hb91 k91 z91
 have hsz92 := Keep.size k91
 replace hK0 := hK0.tn k91
 replace ho32 := ho32.keep k91 nk
 replace hR52 := hR52.keep k91 nk
 replace ho77 := ho77.keep k91 nk
 have hb91lt := hb91.lt
 refine On 9 [1, 7, 8, 11, 12, 15] <| Oe <| V_seq <| Vr <| On 18 [1, 15, 79, 82] <| Lr 1 (pt g75) hb91 <| Oen [1, 15, 85] <| Vf <| Vsk <| V_seq <| Vn [1, 15, 16] <| V_block <| Vp [(1, nt 0),(15, pt b91),(16, nt 0)] <| V_loop (fun k wI e => (k = 0) ∧ Keep none_ w91 wI ∧ e = [(1, nt 0),(15, pt b91),(16, nt 0)]) 0 ⟨rfl, Keep.refl _ _, rfl⟩ ?_
 rintro k94 w93 _ ⟨hk9, hk95, rfl⟩
 have hsz96 := Keep.size hk95
 replace hb91 := hb91.k0 hk95
 replace hK0 := hK0.tn hk95
 replace ho32 := ho32.keep hk95 nk
 replace hR52 := hR52.keep hk95 nk
 replace ho77 := ho77.keep hk95 nk
 have hzhk95 := Keep.size hk95
 refine V_seq <| Vn [1, 15, 16, 90, 91, 92] <| Vf <| V_exit <| X_exit_then <| X_exit_then <| X_exit_here <| X_then <| Vs [(4, pt b91)] <| V_ret ?_
 exact X_return _ rfl ⟨b91, r50, gg54, g75, l30, H51, F76, F31, pv40, pv89, pv69, rfl, hb91, hR52, ho77, ho32, hK0, by omega, (fun q hq => ⟨by have h1 := own56 q hq; omega, by have h1 := lt57 q hq; omega⟩),(fun q hq => ⟨by have h1 := own80 q hq; omega, by have h1 := lt81 q hq; omega⟩),(fun q hq => ⟨by have h1 := own35 q hq; omega, by have h1 := lt36 q hq; omega⟩),(fun q h1 h2 => dis86 q h2 h1), dis60, dis85⟩
end Go.Al
namespace Go.Al
open Go Go.RowKit Go.Proofs
section
variable {xs : List Acc} {cs : List Ci} {s : VS} {ts : List Trk} {rs : List Rfm} {who of after : Int}
theorem subE_bad (h : isA who = false ∨ ¬ (0 ≤ of ∧ of < ts.length) ∨ after < 0 ∨ after > 1000) : subE xs cs s ts rs who of after = 1 := by
  unfold subE
  rw [if_pos]
  rcases h with h | h | h
  · unfold isA at h; rw [decide_eq_false_iff_not] at h; omega
  · left; unfold trkO; rw [if_neg h]; rfl
  · omega
theorem subE_ok (h1 : isA who = true) (h2 : 0 ≤ of ∧ of < ts.length) (h3 : ¬ (after < 0 ∨ after > 1000)) : subE xs cs s ts rs who of after = if rs.length ≥ 12 then 3 else if (pollAt s rs.length).isSome then 5 else spendsE xs cs who 10 := by
  unfold isA at h1; rw [decide_eq_true_eq] at h1
  refine subEx ?_ (by omega)
  unfold trkO
  rw [if_pos h2, List.getElem?_eq_getElem (by omega)]; rfl
theorem RInv.snoc {x : Rfm} (h : RInv ts rs) (h1 : 0 ≤ x.track ∧ x.track < ts.length) (h2 : -1 ≤ x.backer ∧ -1 ≤ x.since ∧ -1 ≤ x.till) (h3 : rs.length < 12) : RInv ts (rs ++ [x]) :=
  ⟨⟨h.inn.tl, h.inn.tok, by rw [List.length_append, List.length_singleton]; omega, fun y hy => by
    rcases List.mem_append.1 hy with hy | hy
    · exact h.inn.rtk y hy
    · rw [List.mem_singleton.1 hy]; exact h1⟩, fun y hy => by
    rcases List.mem_append.1 hy with hy | hy
    · exact h.ge y hy
    · rw [List.mem_singleton.1 hy]; exact h2⟩
end
theorem DRf.snoc {H : Nat → Prop} {w0 w : World} {z N cap cap2 cap3 : Nat} {A B A2 : Option Addr} {ts : List Trk} {rs rs' : List Rfm} (hdz : DRX H w0 z A cap B cap2 ts rs) (hri : RInv ts rs') (hHz : H z) (hlt : ∀ q, H q → q < N) (hN : N ≤ w.heap.size)
    (hz : Blk w z [.slice A ts.length cap, .slice A2 rs'.length cap3] 98) (hA : SlT w 18 Trk.cells A cap ts) (hB : SlT w 45 Rfm.cells A2 cap3 rs') (hx : ∀ q, inA A2 q → inA B q ∨ N ≤ q) : ∃ H', DRf H' w z ts rs' ∧ ∀ q, H' q → H q ∨ N ≤ q := by
  have hf : ∀ q, (H q ∨ inA A2 q) → H q ∨ N ≤ q := fun q h => by
    rcases h with h | h
    · exact .inl h
    · exact (hx q h).imp (fun h => (hdz.zb q h).1) id
  refine ⟨fun q => H q ∨ inA A2 q, ⟨hri, .inl hHz, fun q h => ?_, A, cap, A2, cap3, ⟨hz, hA, hB, fun q h => ⟨.inl (hdz.za q h).1, (hdz.za q h).2⟩, fun q h => ⟨.inr h, ?_⟩, fun q h1 h2 => ?_⟩⟩, hf⟩
  · rcases h with h | h
    · exact Nat.lt_of_lt_of_le (hlt q h) hN
    · exact SlT.lt hB q h
  · rcases hx q h with h | h
    · exact (hdz.zb q h).2
    · have := hlt z hHz; omega
  · rcases hx q h2 with h | h
    · exact hdz.ab q h1 h
    · have := hlt q (hdz.za q h1).1; omega
set_option maxHeartbeats 1000000 in
theorem rsub12_spec (H : Nat → Prop) (z : Nat) (ts : List Trk) (rs : List Rfm) (F : Nat → Prop) (y : Nat) (s : VS) (G : Nat → Prop) (x : Nat) (xs : List Acc) (cs : List Ci) (who of : Int) (sum : Nat → Int) (after now : Int) (w : World) (h : DRf H w z ts rs) (hV : DVt F w y s) (hl : DLd G w x xs cs) (hHF : ∀ q, H q → ¬ F q) (hHG : ∀ q, H q → ¬ G q) (hFG : ∀ q, F q → ¬ G q) : Calls Tryz.prog 25 #[pt z, pt x, pt y, nt who, nt of, .agg (hshc sum).toArray, nt after, nt now] w fun e w' => e = .returned (.tuple #[nt (if subE xs cs s ts rs who of after = 0 then (rs.length : Int) else 0), nt (subE xs cs s ts rs who of after)]) ∧ (∃ H' F' G', DRf H' w' z ts (subR xs cs s ts rs who of after sum now) ∧ DVt F' w' y (subS xs cs s ts rs who of after) ∧ DLd G' w' x (subX xs cs s ts rs who of after) cs ∧ (∀ q, H' q → H q ∨ w.heap.size ≤ q) ∧ (∀ q, F' q → F q ∨ w.heap.size ≤ q) ∧ (∀ q, G' q → G q ∨ w.heap.size ≤ q) ∧ (∀ q, H' q → ¬ F' q) ∧ (∀ q, H' q → ¬ G' q) ∧ (∀ q, F' q → ¬ G' q)) ∧ Keep (fun q => H q ∨ F q ∨ G q) w w' := by
 have hHlt := DRf.lt h
 have hzlt := hHlt _ (DRf.at_ h)
 have hHr : ∀ q, H q → H q ∨ w.heap.size ≤ q := fun _ h => .inl h
 have hFlt := DVt.lt hV
 have hylt := hFlt _ (DVt.at_ hV)
 have hFr : ∀ q, F q → F q ∨ w.heap.size ≤ q := fun _ h => .inl h
 have hGlt := DLd.lt hl
 have hxlt := hGlt _ (DLd.at_ hl)
 have hGr : ∀ q, G q → G q ∨ w.heap.size ≤ q := fun _ h => .inl h
 have hK0 : Keep (fun q => H q ∨ F q ∨ G q) w w := Keep.refl _ _
 refine eV ?_
 refine Vr <| OI_box 40 (.tmp 5) (.agg (hshc sum).toArray) (hshc sum) (some 13) (by kernel_rfl) (by kernel_rfl) rfl ?_
 intro b1 w1 e1 hb1 k1 z1
 have hsz2 := Keep.size k1
 replace h := DRf.keep h k1 nk
 replace hV := DVt.keep hV k1 nk
 replace hl := DLd.keep hl k1 nk
 replace hK0 := hK0.tn k1
 have hb1lt := hb1.lt
 refine On 3 [0, 1, 2, 3, 4, 6, 7, 13] <| Oe <| V_seq <| V_block <| Vr <| On 1 [0, 1, 2, 3, 4, 6, 7, 13, 21] <| Kq (is6_spec who _) <| Os 4 [(0, pt z),(1, pt x),(2, pt y),(3, nt who),(4, nt of),(6, nt after),(7, nt now),(13, pt b1),(24, .bool (!(isA who)))] ?_
 cases hg6 : (!(isA who))
 ·
  refine OI_eq [(0, pt z),(1, pt x),(2, pt y),(3, nt who),(4, nt of),(6, nt after),(7, nt now),(13, pt b1),(24, .bool false)] (by first | rfl | rw [hg6]) <| On 8 [0, 1, 2, 3, 4, 6, 7, 13, 28] ?_
  by_cases hg7 : of < 0
  ·
   refine Dt 28 hg7 <| Oen [0, 1, 2, 3, 4, 6, 7, 13, 20] <| Vo <| Vn [16, 17] <| V_ret <| X_ret_block <| X_ret_then ?_
   have hE8 : subE xs cs s ts rs who of after = 1 := subE_bad (.inr (by omega))
   obtain ⟨h18, h28, h38⟩ := sub_no hE8 (by decide)
   exact Xr (.tuple #[nt 0, nt 1]) ⟨by rw [hE8]; rfl, ⟨H, F, G, (by rw [h38]; exact h),(by rw [h28]; exact hV),(by rw [h18]; exact hl), hHr, hFr, hGr, hHF, hHG, hFG⟩, hK0⟩
  refine Df 28 hg7 <| On 12 [0, 1, 2, 3, 4, 6, 7, 13, 28, 29, 32] ?_
  obtain ⟨hrv9, hHz9, hHlt9, A9, cap9, B9, capb9, hdz9⟩ := h
  have hz9 := hdz9.blk
  have hA9 := hdz9.tl
  have hB9 := hdz9.rl
  have hz9lt := hHlt _ hHz9
  have hrl9 := hrv9.inn.rl
  have htl9 := hrv9.inn.tl
  have owA9 : ∀ q, inA A9 q → q ≠ z ∧ q ≠ b1 := fun q hq => by obtain ⟨h1, h4⟩ := hdz9.za q hq; have h2 := hHlt q h1; omega
  have ltA9 := fun q (hq : inA A9 q) => hHlt q (hdz9.za q hq).1
  have owB9 : ∀ q, inA B9 q → q ≠ z ∧ q ≠ b1 := fun q hq => by obtain ⟨h1, h4⟩ := hdz9.zb q hq; have h2 := hHlt q h1; omega
  have ltB9 := fun q (hq : inA B9 q) => hHlt q (hdz9.zb q hq).1
  have own10 : ∀ q, F q → q ≠ z := fun q hq e => hHF z hHz9 (by rw [← e]; exact hq)
  have own11 : ∀ q, G q → q ≠ z := fun q hq e => hHG z hHz9 (by rw [← e]; exact hq)
  refine Lr 0 (.slice A9 ts.length cap9) hz9 <| On 17 [0, 1, 2, 3, 4, 6, 7, 13, 37] ?_
  by_cases hg12 : of ≥ (ts.length : Int)
  ·
   refine Dt 37 hg12 <| Oen [0, 1, 2, 3, 4, 6, 7, 13, 20] <| Vo <| Vn [16, 17] <| V_ret <| X_ret_block <| X_ret_then ?_
   have hE13 : subE xs cs s ts rs who of after = 1 := subE_bad (.inr (by omega))
   obtain ⟨h113, h213, h313⟩ := sub_no hE13 (by decide)
   have ho14 : DRf H w1 z ts rs := ⟨hrv9, hHz9, (ltm hHlt9), _, _, _, _, ⟨by (try simp only [List.length_set]); exact hz9, hA9, hB9, hdz9.za, hdz9.zb, hdz9.ab⟩⟩
   exact Xr (.tuple #[nt 0, nt 1]) ⟨by rw [hE13]; rfl, ⟨H, F, G, (by rw [h313]; exact ho14),(by rw [h213]; exact hV),(by rw [h113]; exact hl), hHr, hFr, hGr, hHF, hHG, hFG⟩, hK0⟩
  refine Df 37 hg12 <| On 21 [0, 1, 2, 3, 4, 6, 7, 13, 41] ?_
  by_cases hg15 : after < 0
  ·
   refine Dt 41 hg15 <| Oen [0, 1, 2, 3, 4, 6, 7, 13, 20] <| Vo <| Vn [16, 17] <| V_ret <| X_ret_block <| X_ret_then ?_
   have hE16 : subE xs cs s ts rs who of after = 1 := subE_bad (.inr (by omega))
   obtain ⟨h116, h216, h316⟩ := sub_no hE16 (by decide)
   have ho17 : DRf H w1 z ts rs := ⟨hrv9, hHz9, (ltm hHlt9), _, _, _, _, ⟨by (try simp only [List.length_set]); exact hz9, hA9, hB9, hdz9.za, hdz9.zb, hdz9.ab⟩⟩
   exact Xr (.tuple #[nt 0, nt 1]) ⟨by rw [hE16]; rfl, ⟨H, F, G, (by rw [h316]; exact ho17),(by rw [h216]; exact hV),(by rw [h116]; exact hl), hHr, hFr, hGr, hHF, hHG, hFG⟩, hK0⟩
  refine Df 41 hg15 <| Oen [0, 1, 2, 3, 4, 6, 7, 13, 20] <| Vi (after > 1000) (fun hc18 => ?_) (fun hc18 => ?_)
  ·
   refine Vn [16, 17] <| V_ret <| X_ret_block <| X_ret_then ?_
   have hE19 : subE xs cs s ts rs who of after = 1 := subE_bad (.inr (by omega))
   obtain ⟨h119, h219, h319⟩ := sub_no hE19 (by decide)
   have ho20 : DRf H w1 z ts rs := ⟨hrv9, hHz9, (ltm hHlt9), _, _, _, _, ⟨by (try simp only [List.length_set]); exact hz9, hA9, hB9, hdz9.za, hdz9.zb, hdz9.ab⟩⟩
   exact Xr (.tuple #[nt 0, nt 1]) ⟨by rw [hE19]; rfl, ⟨H, F, G, (by rw [h319]; exact ho20),(by rw [h219]; exact hV),(by rw [h119]; exact hl), hHr, hFr, hGr, hHF, hHG, hFG⟩, hK0⟩
  refine Vr <| On 3 [0, 1, 2, 3, 4, 6, 7, 13, 48] <| Lr 1 (.slice B9 rs.length capb9) hz9 <| Oen [0, 1, 2, 3, 4, 6, 7, 13, 45] <| Vi ((rs.length : Int) ≥ 12) (fun hc21 => ?_) (fun hc21 => ?_)
  ·
   refine Vn [16, 17] <| V_ret <| X_ret_block <| X_ret_then ?_
   have hE22 : subE xs cs s ts rs who of after = 3 := by
     rw [subE_ok (by simpa using hg6) (by omega) (by omega)]
     rw [if_pos (by omega)]
   obtain ⟨h122, h222, h322⟩ := sub_no hE22 (by decide)
   have ho23 : DRf H w1 z ts rs := ⟨hrv9, hHz9, (ltm hHlt9), _, _, _, _, ⟨by (try simp only [List.length_set]); exact hz9, hA9, hB9, hdz9.za, hdz9.zb, hdz9.ab⟩⟩
   exact Xr (.tuple #[nt 0, nt 3]) ⟨by rw [hE22]; rfl, ⟨H, F, G, (by rw [h322]; exact ho23),(by rw [h222]; exact hV),(by rw [h122]; exact hl), hHr, hFr, hGr, hHF, hHG, hFG⟩, hK0⟩
  refine Vr <| On 4 [0, 1, 2, 3, 4, 6, 7, 13, 53, 56] <| Lr 1 (.slice B9 rs.length capb9) hz9 <| On 6 [0, 1, 2, 3, 4, 6, 7, 13, 53, 58] <| Kk (dhas_spec F y s (rs.length : Int) _ hV) fun w24 hk25 _ => ?_
  replace hb1 := hb1.k0 hk25
  replace hz9 := hz9.k0 hk25
  replace hA9 := hA9.keep0 hk25
  replace hB9 := hB9.keep0 hk25
  replace hV := DVt.keep hV hk25 nk
  replace hl := DLd.keep hl hk25 nk
  replace hK0 := hK0.tn hk25
  skip
  refine Oen [0, 1, 2, 3, 4, 6, 7, 13, 52] <| Vb ((pollAt s (rs.length : Int)).isSome) (fun hc27 => ?_) (fun hc27 => ?_)
  ·
   refine Vs [(16, nt 0),(17, nt 5)] <| V_ret <| X_ret_block <| X_ret_then ?_
   have hE28 : subE xs cs s ts rs who of after = 5 := by
     rw [subE_ok (by simpa using hg6) (by omega) (by omega)]
     rw [if_neg (by omega)]
     exact if_pos (by simpa using hc27)
   obtain ⟨h128, h228, h328⟩ := sub_no hE28 (by decide)
   have ho29 : DRf H w24 z ts rs := ⟨hrv9, hHz9, (ltm hHlt9), _, _, _, _, ⟨by (try simp only [List.length_set]); exact hz9, hA9, hB9, hdz9.za, hdz9.zb, hdz9.ab⟩⟩
   exact Xr (.tuple #[nt 0, nt 5]) ⟨by rw [hE28]; rfl, ⟨H, F, G, (by rw [h328]; exact ho29),(by rw [h228]; exact hV),(by rw [h128]; exact hl), hHr, hFr, hGr, hHF, hHG, hFG⟩, hK0⟩
  refine V_skip <| X_block <| X_then <| Vr <| On 2 [0, 2, 3, 4, 6, 7, 13, 60, 61] <| Kg (reserve6_spec G x xs cs who 10 _ hl) ?_
  rintro _ w34 ⟨rfl, ⟨F36, ho37, hfr38⟩, hk35⟩
  refine ⟨_, rfl, ?_⟩
  have hsz39 := Keep.size hk35
  replace hb1 := hb1.keep hk35 (fun hs => by have h1 := own11 _ hs; have h2 := hGlt _ hs; omega)
  replace hz9 := hz9.keep hk35 (fun hs => by have h1 := own11 _ hs; have h2 := hGlt _ hs; omega)
  replace hA9 := hA9.keep hk35 (fun q hq hs => (fun q h1 h2 => hHG q (hdz9.za q h2).1 h1) q hs hq)
  replace hB9 := hB9.keep hk35 (fun q hq hs => (fun q h1 h2 => hHG q (hdz9.zb q h2).1 h1) q hs hq)
  replace hV := DVt.keep hV hk35 (fun q hq hs => hFG q hq hs)
  replace hK0 := Keep.fresh hK0 hk35 (fun i hi hs => by rcases hGr i hs with h | h; exact .inr <| .inr <| h; (exfalso; omega))
  skip
  have own41 : ∀ q, F36 q → 0 ≤ q ∧ q ≠ b1 ∧ q ≠ z := fun q hq => by rcases hfr38 q hq with h | h; (have h1 := own11 q h; have h2 := hGlt q h; omega); omega
  have lt40 := DLd.lt ho37
  have rel42 : ∀ q, F36 q → G q ∨ w.heap.size ≤ q := fun q hq => by rcases hfr38 q hq with h | h; exact hGr q h; exact .inr (by omega)
  have dis43 : ∀ q, F36 q → ¬ inA A9 q := fun q h1 h2 => by rcases hfr38 q h1 with h | h; exact (fun q h1 h2 => hHG q (hdz9.za q h2).1 h1) q h h2; (have h4 := ltA9 q h2; omega)
  have dis44 : ∀ q, F36 q → ¬ inA B9 q := fun q h1 h2 => by rcases hfr38 q h1 with h | h; exact (fun q h1 h2 => hHG q (hdz9.zb q h2).1 h1) q h h2; (have h4 := ltB9 q h2; omega)
  have dis45 : ∀ q, F36 q → ¬ F q := fun q h1 h2 => by rcases hfr38 q h1 with h | h; exact hFG q h2 h; (have h4 := hFlt q h2; omega)
  have dis46 : ∀ q, F36 q → ¬ H q := fun q h1 h2 => by rcases hfr38 q h1 with h | h; exact hHG q h2 h; (have h4 := hHlt q h2; omega)
  refine On 4 [0, 2, 3, 4, 6, 7, 13, 18] <| Oe <| V_seq <| Vn [0, 2, 3, 4, 6, 7, 13, 18, 64] <| V_not (spendsE xs cs who 10 = 0) (by kernel_rfl) (fun hc47 => ?_) (fun hc47 => ?_)
  ·
   refine Vn [16, 17] <| Rt ?_
   have hE48 : subE xs cs s ts rs who of after = (spendsE xs cs who 10) := by
     rw [subE_ok (by simpa using hg6) (by omega) (by omega)]
     rw [if_neg (by omega)]
     rw [if_neg (by rw [hc27]; decide)]
   obtain ⟨h148, h248, h348⟩ := sub_no hE48 (hc47)
   have ho49 : DRf H w34 z ts rs := ⟨hrv9, hHz9, (ltm hHlt9), _, _, _, _, ⟨by (try simp only [List.length_set]); exact hz9, hA9, hB9, hdz9.za, hdz9.zb, hdz9.ab⟩⟩
   exact Xr (.tuple #[nt 0, nt (spendsE xs cs who 10)]) ⟨by rw [hE48]; rw [if_neg (hc47)], ⟨H, F, F36, (by rw [h348]; exact ho49),(by rw [h248]; exact hV),(by rw [show subX xs cs s ts rs who of after = resX xs cs who 10 from h148.trans (by unfold resX; rw [if_neg (hc47)])]; exact ho37), hHr, hFr, rel42, hHF, (fun q h1 h2 => dis46 q h2 h1),(fun q h1 h2 => dis45 q h2 h1)⟩, hK0⟩
  refine Vsk <| Vr <| On 3 [0, 2, 3, 4, 6, 7, 13, 68] <| Lr 1 (.slice B9 rs.length capb9) hz9 <| On 6 [0, 2, 3, 4, 6, 7, 13, 19] <| Oer <| On 3 [0, 3, 4, 6, 7, 13, 19, 71, 72, 73] <| Kg (dopn_spec F y s (rs.length : Int) of _ hV) ?_
  rintro _ w52 ⟨rfl, ⟨F54, ho55, hfr56⟩, hk53⟩
  refine ⟨_, rfl, ?_⟩
  have hsz57 := Keep.size hk53
  replace hb1 := hb1.keep hk53 (fun hs => by have h1 := own10 _ hs; have h2 := hFlt _ hs; omega)
  replace hz9 := hz9.keep hk53 (fun hs => by have h1 := own10 _ hs; have h2 := hFlt _ hs; omega)
  replace hA9 := hA9.keep hk53 (fun q hq hs => (fun q h1 h2 => hHF q (hdz9.za q h2).1 h1) q hs hq)
  replace hB9 := hB9.keep hk53 (fun q hq hs => (fun q h1 h2 => hHF q (hdz9.zb q h2).1 h1) q hs hq)
  replace hK0 := Keep.fresh hK0 hk53 (fun i hi hs => by rcases hFr i hs with h | h; exact .inr <| .inl h; (exfalso; omega))
  skip
  replace ho37 := DLd.keep ho37 hk53 (fun q hq hs => dis45 q hq hs)
  have own59 : ∀ q, F54 q → 0 ≤ q ∧ q ≠ b1 ∧ q ≠ z := fun q hq => by rcases hfr56 q hq with h | h; (have h1 := own10 q h; have h2 := hFlt q h; omega); omega
  have lt58 := DVt.lt ho55
  have rel60 : ∀ q, F54 q → F q ∨ w.heap.size ≤ q := fun q hq => by rcases hfr56 q hq with h | h; exact hFr q h; exact .inr (by omega)
  have dis61 : ∀ q, F54 q → ¬ inA A9 q := fun q h1 h2 => by rcases hfr56 q h1 with h | h; exact (fun q h1 h2 => hHF q (hdz9.za q h2).1 h1) q h h2; (have h4 := ltA9 q h2; omega)
  have dis62 : ∀ q, F54 q → ¬ inA B9 q := fun q h1 h2 => by rcases hfr56 q h1 with h | h; exact (fun q h1 h2 => hHF q (hdz9.zb q h2).1 h1) q h h2; (have h4 := ltB9 q h2; omega)
  have dis63 : ∀ q, F54 q → ¬ H q := fun q h1 h2 => by rcases hfr56 q h1 with h | h; exact hHF q h2 h; (have h4 := hHlt q h2; omega)
  have dis64 : ∀ q, F54 q → ¬ F36 q := fun q h1 h2 => by rcases hfr56 q h1 with h | h; exact dis45 q h2 h; (have h4 := lt40 q h2; omega)
  refine Oe <| V_seq <| V_draws (acts [11, 12, 15]) (inA B9) [[5, 6, 7, 8, 9, 10, 11, 1, 2, 3, 4, 12, 0, 13, 14, 15]] (by kernel_rfl) (by repeat first | exact (by first | exact sure_body (by rintro _ _ ⟨_, _, h, _⟩; exact ⟨_, h⟩) | exact sure_body (by rintro _ _ ⟨_, _, h, _⟩; exact ⟨_, h⟩) | exact sure_body (by rintro _ _ ⟨h, _⟩; exact ⟨_, h⟩)) | refine sure_then ?_ | refine sure_block ?_ | refine sure_join ?_) (by kernel_rfl) ?_
  intro w66 hk65 he67 L hL68
  have hsz69 := Keep.size hk65
  replace hb1 := hb1.k0 hk65
  replace hz9 := hz9.k0 hk65
  replace hK0 := hK0.tn hk65
  skip
  replace ho37 := DLd.keep ho37 hk65 nk
  replace ho55 := DVt.keep ho55 hk65 nk
  have qhb1 := hb1
  have qhz9 := hz9
  have K70 : Keep (inA B9) w66 w66 := Keep.refl _ _
  obtain rfl := List.mem_singleton.1 hL68
  refine Gn [6, 7, 8, 9, 10, 11, 1, 2, 3, 4, 12, 0, 13, 14, 15] [0, 3, 6, 7, 13, 19, 80] <| Ma 0 (hshc sum) 32 qhb1 (fun hs => by have h1 := owB9 _ hs; have h2 := ltB9 _ hs; omega) (take_all (hshc_len _)) (hshc_len _) <| Gn [11, 1, 2, 3, 4, 12, 0, 13, 14, 15] [0, 19, 85] <| GI_slit (E := 44) (zv := .agg #[nt 0, nt 0, .int .u8 0, .int .u8 0, .int .u8 0, .int .u8 0, .int .u8 0, .int .u8 0, .int .u8 0, .int .u8 0, .int .u8 0, .int .u8 0, .int .u8 0, .int .u8 0, .int .u8 0, .int .u8 0, .int .u8 0, .int .u8 0, .int .u8 0, .int .u8 0, .int .u8 0, .int .u8 0, .int .u8 0, .int .u8 0, .int .u8 0, .int .u8 0, .int .u8 0, .int .u8 0, .int .u8 0, .int .u8 0, .int .u8 0, .int .u8 0, .int .u8 0, .int .u8 0, nt 0, nt 0, nt 0, .bool false, nt 0, nt 0, nt 0, nt 0, nt 0, nt 0, nt 0]) (sz := 45) (by_ := 136) 96 1 #[(0, (Operand.tmp 85))] [.agg (Rfm.cells (newR of sum after now who)).toArray] (Rfm.cells (newR of sum after now who)) (some 86) (by kernel_rfl) (by kernel_rfl) K70 (by kernel_rfl) (by kernel_rfl) (by omega) rfl (by omega) (by intro v hv; obtain rfl := List.mem_singleton.1 hv; show (Rfm.cells (newR of sum after now who)).toArray.size = 45; simp [Rfm.len]) (by kernel_rfl) (by show (Rfm.cells (newR of sum after now who)).toArray.toList ++ [] = _; simp) ?_
  intro b71 w71 e71 hb71 k71 z71 K72
  have hsz73 := Keep.size k71
  replace hz9 := hz9.k0 k71
  replace hA9 := hA9.keep0 (hk65.tr k71)
  replace hB9 := hB9.keep0 (hk65.tr k71)
  replace hK0 := hK0.tn k71
  skip
  replace ho37 := DLd.keep ho37 k71 nk
  replace ho55 := DVt.keep ho55 k71 nk
  have hb71lt := hb71.lt
  refine Gn [4, 12, 0, 13, 14, 15] [0, 19, 78, 86] <| Mc 1 (.slice B9 rs.length capb9) qhz9 (fun hs => by have h1 := owB9 _ hs; have h2 := ltB9 _ hs; omega) rfl <| GI_append (t := 96) (at2 := 96) (E := 44) (E2 := 44) (sz := 45) (by_ := 136) (zv := .agg #[nt 0, nt 0, .int .u8 0, .int .u8 0, .int .u8 0, .int .u8 0, .int .u8 0, .int .u8 0, .int .u8 0, .int .u8 0, .int .u8 0, .int .u8 0, .int .u8 0, .int .u8 0, .int .u8 0, .int .u8 0, .int .u8 0, .int .u8 0, .int .u8 0, .int .u8 0, .int .u8 0, .int .u8 0, .int .u8 0, .int .u8 0, .int .u8 0, .int .u8 0, .int .u8 0, .int .u8 0, .int .u8 0, .int .u8 0, .int .u8 0, .int .u8 0, .int .u8 0, .int .u8 0, nt 0, nt 0, nt 0, .bool false, nt 0, nt 0, nt 0, nt 0, nt 0, nt 0, nt 0]) (m := rs.length) (k := 1) (.tmp 79) (.tmp 86) (.slice B9 rs.length capb9) (sl_ b71 0 1 1) (some 87) (by kernel_rfl) (by kernel_rfl) (by kernel_rfl) (by kernel_rfl) (by kernel_rfl) (by kernel_rfl) (by kernel_rfl) (by kernel_rfl) (SlT.slr hB9) (slr_one hb71 (Rfm.len ((newR of sum after now who)))) (Rfm.one ((newR of sum after now who))) (by first | omega | (simp only [List.length_nil]; omega)) (by omega) (by first | omega | (simp only [List.length_nil]; omega)) (by omega) ?_
  intro vv9 w74 hap
  obtain ⟨A74, cap74, rfl, hA74, hk74, own74x⟩ := app_one (f := Rfm.cells) (xs := rs) (x := ((newR of sum after now who))) (A := B9) (cap := capb9) hap (fun x _ => Rfm.len x) (Rfm.len _)
  have own74 : ∀ q, inA A74 q → q ≠ z ∧ q ≠ b1 := fun q hq => by rcases own74x q hq with h | h; exact owB9 q h; (show q ≠ z ∧ q ≠ b1; omega)
  refine ⟨Keep.fresh K72 hk74 (by intro i hi hs; first | exact hs | (exfalso; have h1 := owB9 i hs; have h2 := ltB9 i hs; omega) | (have h1 := owB9 i hs; have h2 := ltB9 i hs; show _ ∨ _; omega)), ?_⟩
  have K75 := Keep.fresh K72 hk74 (by intro i hi hs; first | exact hs | (exfalso; have h1 := owB9 i hs; have h2 := ltB9 i hs; omega) | (have h1 := owB9 i hs; have h2 := ltB9 i hs; show _ ∨ _; omega))
  have hsz76 := Keep.size hk74
  replace hz9 := hz9.keep hk74 (fun hs => by have h1 := owB9 _ hs; have h2 := ltB9 _ hs; omega)
  replace hA9 := hA9.keep hk74 (fun q hq hs => hdz9.ab q hq hs)
  replace hK0 := Keep.fresh hK0 hk74 (fun i hi hs => by rcases hHr i (hdz9.zb i hs).1 with h | h; exact .inl h; (exfalso; omega))
  skip
  replace ho37 := DLd.keep ho37 hk74 (fun q hq hs => dis44 q hq hs)
  replace ho55 := DVt.keep ho55 hk74 (fun q hq hs => dis62 q hq hs)
  have lt74 := SlT.lt hA74
  refine Gn [15] [19, 87, 89] <| GI_final 15 (by kernel_rfl) (by kernel_rfl) <| St_ 1 (.slice A74 ((rs ++ [((newR of sum after now who))]).length) cap74) hz9 ?_
  intro w77 hz_80 hk78 hz79
  replace hz_80 : Blk w77 z [.slice A9 ts.length cap9, .slice A74 ((rs ++ [((newR of sum after now who))]).length) cap74] 98 := hz_80
  have hsz81 := Keep.size hk78
  replace hA9 := hA9.keep hk78 (fun q hq hs => by have hs : q = z := hs; have g0 := owA9 q hq; have g1 := ltA9 q hq; omega)
  replace hA74 := hA74.keep hk78 (fun q hq hs => by have hs : q = z := hs; have g0 := own74 q hq; have g1 := lt74 q hq; omega)
  replace hK0 := Keep.fresh hK0 hk78 (by intro i hi hs; have hs2 : i = z := hs; replace hs : H i := (hs2 ▸ hHz9); rcases hHr i hs with h | h; exact .inl h; (exfalso; omega))
  skip
  replace ho37 := DLd.keep ho37 hk78 (fun q hq hs => by have hs : q = z := hs; have g0 := own41 q hq; have g1 := lt40 q hq; omega)
  replace ho55 := DVt.keep ho55 hk78 (fun q hq hs => by have hs : q = z := hs; have g0 := own59 q hq; have g1 := lt58 q hq; omega)
  refine Oer <| Ose [(16, nt (rs.length : Int)),(17, nt 0)] <| V_ret ?_
  have hE82 : subE xs cs s ts rs who of after = 0 := by
    rw [subE_ok (by simpa using hg6) (by omega) (by omega)]
    rw [if_neg (by omega)]
    rw [if_neg (by rw [hc27]; decide)]
    exact hc47
  obtain ⟨h182, h282, h382⟩ := sub_go hE82
  obtain ⟨H83, ho84, hfr85⟩ := DRf.snoc (N := w71.heap.size) hdz9 (RInv.snoc (x := newR of sum after now who) hrv9 (by show 0 ≤ of ∧ of < _; omega) ⟨Int.le_refl _, Int.le_refl _, Int.le_refl _⟩ (by omega)) hHz9 (ltm hHlt9) (by omega) (by first | exact hz_80 | (simp only [List.length_append, List.length_singleton]; exact hz_80)) hA9 hA74 own74x
  have lt86 := DRf.lt ho84
  have rel87 : ∀ q, H83 q → H q ∨ w.heap.size ≤ q := fun q hq => by rcases hfr85 q hq with h | h; exact hHr q h; exact .inr (by omega)
  have dis88 : ∀ q, H83 q → ¬ F36 q := fun q h1 h2 => by rcases hfr85 q h1 with h | h; exact dis46 q h2 h; (have h4 := lt40 q h2; omega)
  have dis89 : ∀ q, H83 q → ¬ F54 q := fun q h1 h2 => by rcases hfr85 q h1 with h | h; exact dis63 q h2 h; (have h4 := lt58 q h2; omega)
  exact Xr (.tuple #[nt (rs.length : Int), nt 0]) ⟨by rw [hE82]; rfl, ⟨H83, F54, F36, (by rw [h382]; exact ho84),(by rw [h282]; exact ho55),(by rw [h182]; exact ho37), rel87, rel60, rel42, dis89, dis88, dis64⟩, hK0⟩
 refine OI_eq [(0, pt z),(1, pt x),(2, pt y),(3, nt who),(4, nt of),(6, nt after),(7, nt now),(13, pt b1),(24, .bool true)] (by first | rfl | rw [hg6]) <| Oen [0, 1, 2, 3, 4, 6, 7, 13, 20] <| Vo <| Vn [16, 17] <| V_ret <| X_ret_block <| X_ret_then ?_
 have hE90 : subE xs cs s ts rs who of after = 1 := subE_bad (.inl (by simpa using hg6))
 obtain ⟨h190, h290, h390⟩ := sub_no hE90 (by decide)
 exact Xr (.tuple #[nt 0, nt 1]) ⟨by rw [hE90]; rfl, ⟨H, F, G, (by rw [h390]; exact h),(by rw [h290]; exact hV),(by rw [h190]; exact hl), hHr, hFr, hGr, hHF, hHG, hFG⟩, hK0⟩
end Go.Al
namespace Go.Al
open Go Go.RowKit Go.Proofs
variable {fs : List Int}
def sumI : List Int → Int
  | [] => 0
  | x :: l => x + sumI l
theorem sumI_app (l : List Int) (x : Int) : sumI (l ++ [x]) = sumI l + x := by
  induction l with
  | nil => simp [sumI]
  | cons y l ih => simp only [List.cons_append, sumI, ih]; omega
theorem tot_app (a b : List Acc) : tot (a ++ b) = tot a + tot b := by
  induction a with
  | nil => simp [tot]
  | cons y l ih => simp only [List.cons_append, tot, ih]; omega
theorem sum_bnd : ∀ (l : List Int),(∀ y ∈ l, 0 ≤ y ∧ y ≤ 1073741824) → 0 ≤ sumI l ∧ sumI l ≤ 1073741824 * l.length
  | [], _ => by simp [sumI]
  | x :: l, h => by
    have h1 := h x (List.mem_cons_self ..)
    have h2 := sum_bnd l (fun y hy => h y (List.mem_cons_of_mem _ hy))
    rw [sumI, List.length_cons]; omega
theorem tot_new : ∀ (n : Nat) (fs : List Int), fs.length ≤ n → tot (newX fs n) = sumI fs
  | 0, fs, h => by
    obtain rfl := List.length_eq_zero_iff.1 (Nat.le_zero.1 h)
    rfl
  | n + 1, fs, h => by
    rw [newX_succ, tot_app]
    by_cases hn : fs.length ≤ n
    · rw [tot_new n fs hn, List.getElem?_eq_none hn]; simp [tot]
    · have hn : fs.length = n + 1 := by omega
      have hx : fs[n]? = some fs[n] := List.getElem?_eq_getElem (by omega)
      have ht : fs.take n ++ [fs[n]] = fs := by
        have := List.take_succ_eq_append_getElem (l := fs) (i := n) (by omega)
        rw [← this, List.take_of_length_le (by omega)]
      have he : newX fs n = newX (fs.take n) n := by
        unfold newX
        refine List.map_congr_left fun k hk => ?_
        rw [List.getElem?_take, if_pos (List.mem_range.1 hk)]
      have hs : sumI fs = sumI (fs.take n) + fs[n] := by rw [← sumI_app, ht]
      rw [he, tot_new n (fs.take n) (by rw [List.length_take]; omega), hx, hs]
      simp [tot]
def dsN (fs : List Int) (i : Nat) : List DE := (List.range 10).map fun k => ⟨if k < i then (fs[k]?).getD 0 else 0, 0, none, 0, []⟩
theorem dsN_len (fs : List Int) (i : Nat) : (dsN fs i).length = 10 := by simp [dsN]
theorem dsN_at {i k : Nat} {d : DE} (h : (dsN fs i)[k]? = some d) : k < 10 ∧ d = ⟨if k < i then (fs[k]?).getD 0 else 0, 0, none, 0, []⟩ := by
  obtain ⟨h1, h2⟩ := List.getElem?_eq_some_iff.1 h
  rw [dsN_len] at h1
  exact ⟨h1, by rw [← h2]; simp [dsN]⟩
theorem dsN_step {i : Nat} {x : Int} (h : fs[i]? = some x) : (dsN fs i).set i ⟨x, 0, none, 0, []⟩ = dsN fs (i + 1) := by
  refine List.ext_getElem? fun k => ?_
  by_cases hk : k = i
  · subst hk
    by_cases hl : k < 10
    · rw [List.getElem?_set_self (by rw [dsN_len]; exact hl)]; simp [dsN, hl, h]
    · rw [List.getElem?_eq_none (by rw [List.length_set, dsN_len]; omega), List.getElem?_eq_none (by rw [dsN_len]; omega)]
  · rw [List.getElem?_set_ne (Ne.symm hk)]
    by_cases hl : k < 10
    · simp [dsN, hl]
      have : k < i ↔ k < i + 1 := by omega
      by_cases h3 : k < i
      · rw [if_pos h3, if_pos (by omega)]
      · rw [if_neg h3, if_neg (by omega)]
    · rw [List.getElem?_eq_none (by rw [dsN_len]; omega), List.getElem?_eq_none (by rw [dsN_len]; omega)]
theorem dsN_acc (h : fs.length ≤ 10) : (dsN fs fs.length).map DE.acc = newX fs 10 := by
  unfold dsN newX
  rw [List.map_map]
  refine List.map_congr_left fun k hk => ?_
  show Acc.mk (if k < fs.length then (fs[k]?).getD 0 else 0) 0 = _
  by_cases h3 : k < fs.length
  · rw [if_pos h3]
  · rw [if_neg h3, List.getElem?_eq_none (by omega)]; rfl
theorem okC_nil : OkC [] := ⟨by decide, List.Pairwise.nil, fun c h => by cases h⟩
theorem newX_inv (h : okP fs) : Inv (newX fs 10) := by
  refine ⟨by simp [newX], fun x hx => ?_, h.2.2⟩
  obtain ⟨k, _, rfl⟩ := List.mem_map.1 hx
  show 0 ≤ (fs[k]?).getD 0 ∧ 0 ≤ (0 : Int)
  refine ⟨?_, by decide⟩
  cases hk : fs[k]? with
  | none => exact Int.le_refl _
  | some x => exact (h.2.1 x (List.mem_of_getElem? hk)).1
set_option maxHeartbeats 1000000 in
theorem new6_spec (A : Option Addr) (cap : Nat) (fs : List Int) (w : World) (hA0 : ArgT w 1 intc A cap fs) (hn : fs.length ≤ 9223372036854775807) : Calls Tryz.prog 18 #[.slice A fs.length cap] w fun e w' => (okP fs ∧ ∃ x F, e = .returned (.tuple #[pt x, nt 0]) ∧ DLd F w' x (newX fs 10) [] ∧ Keep none_ w w' ∧ (∀ q, F q → w.heap.size ≤ q)) ∨ (¬ okP fs ∧ e = .returned (.tuple #[.pointer none, nt 1]) ∧ Keep none_ w w') := by
 have hA := hA0
 have hK0 := Keep.refl none_ w
 refine eV ?_
 refine Vr <| On 2 [0] <| Oe <| V_seq <| Vn [0, 9] <| Vi ((fs.length : Int) > 10) (fun hc1 => ?_) (fun hc1 => ?_)
 ·
  refine Vs [(2, .pointer none),(3, nt 1)] <| Rt ?_
  exact X_return _ rfl (.inr ⟨fun h => by have := h.1; omega, rfl, hK0⟩)
 refine Vsk <| Vr <| OI_make (E := 114) (sz := 3) (by_ := 40) (m := 10) (kd := .i64) (zv := .agg #[nt 0, nt 0, .slice none 0 0]) 109 (.const (Value.int IntKind.i64 10)) (.const (Value.int IntKind.i64 10)) ((List.replicate 10 [nt 0, nt 0, .slice none 0 0]).flatten) (some 10) (by kernel_rfl) (by kernel_rfl) (by kernel_rfl) (by kernel_rfl) (by kernel_rfl) (by decide) (by decide) (by kernel_rfl) ?_
 intro b2 w2 e2 hb2 k2 z2
 have hsz3 := Keep.size k2
 replace hA := ArgT.keep0 hA k2
 replace hK0 := hK0.tn k2
 have hb2lt := hb2.lt
 refine On 2 [0, 11] <| Bx 111 [sl_ b2 0 10 10] ?_
 intro b4 w4 e4 hb4 k4 z4
 have hsz5 := Keep.size k4
 replace hb2 := hb2.k0 k4
 replace hA := ArgT.keep0 hA k4
 replace hK0 := hK0.tn k4
 have hb4lt := hb4.lt
 refine On 4 [0, 4] <| Oer <| On 1 [0, 4, 5] <| Oe <| V_seq <| Vn [0, 4, 5, 6] <| V_block <| Vp [(0, .slice A fs.length cap),(4, pt b4),(5, nt 0),(6, nt 0)] <| V_loop (fun k wI e => ∃ i : Nat, ∃ A2 : Option Addr, ∃ ds : List DE, ∃ s : Int, (k + i = fs.length) ∧ (ds = dsN fs i) ∧ (Blk wI b4 [.slice A2 ds.length 10] 111) ∧ (SlT wI 3 DE.cells A2 10 ds) ∧ (∀ q, inA A2 q → w.heap.size ≤ q ∧ q ≠ b4) ∧ (∀ q, inA A2 q → q = b2) ∧ (s = sumI (fs.take i)) ∧ (∀ y ∈ fs.take i, 0 ≤ y ∧ y ≤ 1073741824) ∧ Keep (fun q => (only b2) q ∨ (only b4) q) w4 wI ∧ e = [(0, .slice A fs.length cap),(4, pt b4),(5, nt s),(6, nt (i : Int))]) fs.length ⟨0, (some ⟨b2, 0, none⟩), dsN fs 0, 0, by omega, rfl, hb4, slt_blk (xs := dsN fs 0) hb2 DE.len rfl, (fun q h => by have h3 := inA_some h; omega),(fun q h => inA_some h), rfl, fun y hy => by simp at hy, Keep.refl _ _, rfl⟩ ?_
 rintro k7 w6 _ ⟨i, A2, ds, s, hki, hds, hxb, hA2, ow2, hrA, hs, hok, hk8, rfl⟩
 have hsz9 := Keep.size hk8
 replace hA := ArgT.keep hA hk8 hA0 (fun k hk hs => by rcases hs with hs | hs; (have u0 : k = b2 := hs; omega); (have u0 : k = b4 := hs; omega))
 replace hK0 := Keep.fresh hK0 hk8 (by intro i hi hs; first | exact hs | (rcases hs with hs | hs; (have u0 : i = b2 := hs; omega); (have u0 : i = b4 := hs; omega)))
 have hzhk8 := Keep.size hk8
 have hb4lt := hxb.lt
 have lt2 := SlT.lt hA2
 have hdl : ds.length = 10 := by rw [hds, dsN_len]
 have hsb := sum_bnd _ hok; rw [List.length_take, ← hs] at hsb
 refine V_seq <| Vn [0, 4, 5, 6, 16] <| Vi ((i : Int) < (fs.length : Int)) (fun hc10 => ?_) (fun hc10 => ?_)
 ·
  refine Vsk <| V_seq <| V_block <| V_seq <| Vr <| On 2 [0, 4, 5, 6, 19, 20] ?_
  obtain ⟨b11, o11, L11, rfl, hat11⟩ := ArgT.open_ hA (by first | omega | (simp only [List.length_map]; omega) | (simp; done) | (simp; omega))
  have hb11lt0 := ArgT.lt hA0 (by first | omega | (simp only [List.length_map]; omega) | (simp; done) | (simp; omega))
  have hb11lt := hat11.blk.lt
  refine Oi (b := b11) (o := o11) (len := fs.length) (cap := cap) (j := i) (some 21) 49 (.tmp 19) (.tmp 20) 3 1 8 .i64 ?_
  obtain ⟨x12, hx13⟩ := exAt (xs := fs) (i := i)
  obtain ⟨hts, htl⟩ : fs.take (i + 1) = fs.take i ++ [x12] ∧ True := ⟨by obtain ⟨h1, h2⟩ := List.getElem?_eq_some_iff.1 hx13; rw [List.take_succ_eq_append_getElem h1, h2], trivial⟩
  refine OI_cellR 3 (.tmp 21) (o11 + i * 1) (nt x12) (some 22) (by kernel_rfl) (by kernel_rfl) hat11.blk (m := 1) (by kernel_rfl) (AtR.cell0 hat11 (es_at hx13) rfl) <| On 6 [0, 4, 5, 6, 24] ?_
  by_cases hg14 : x12 < 0
  ·
   refine Dt 24 hg14 <| Oen [0, 4, 5, 6, 25, 26, 27, 28, 29, 30] <| Vo <| Vs [(2, .pointer none),(3, nt 1)] <| Rt <| X_ret_block <| X_ret_then <| X_ret_then <| X_ret_block <| X_ret_then ?_
   exact X_return _ rfl (.inr ⟨fun h => by have h9 := h.2.1 _ (List.mem_of_getElem? hx13); omega, rfl, hK0⟩)
  refine Df 24 hg14 <| On 8 [0, 4, 5, 6, 24, 25, 26] <| Oi (b := b11) (o := o11) (len := fs.length) (cap := cap) (j := i) (some 27) 49 (.tmp 25) (.tmp 26) 3 1 8 .i64 <| OI_cellR 3 (.tmp 27) (o11 + i * 1) (nt x12) (some 28) (by kernel_rfl) (by kernel_rfl) hat11.blk (m := 1) (by kernel_rfl) (AtR.cell0 hat11 (es_at hx13) rfl) <| Oen [0, 4, 5, 6, 25, 26, 27, 28, 29, 30] <| Vi (x12 > 1073741824) (fun hc15 => ?_) (fun hc15 => ?_)
  ·
   refine Vs [(2, .pointer none),(3, nt 1)] <| Rt <| X_ret_block <| X_ret_then <| X_ret_then <| X_ret_block <| X_ret_then ?_
   exact X_return _ rfl (.inr ⟨fun h => by have h9 := h.2.1 _ (List.mem_of_getElem? hx13); omega, rfl, hK0⟩)
  refine Vsk <| V_seq ?_
  have h10 : 0 < ds.length := by omega
  obtain ⟨b16, o16, L16, T16, rfl, hat16⟩ := SlT.opn hA2
  have hb16lt := hat16.blk.lt
  have hob17 := ow2 b16 ⟨_, rfl, rfl⟩
  have hob18 := lt2 b16 ⟨_, rfl, rfl⟩
  have hbA : b16 = b2 := hrA _ ⟨_, rfl, rfl⟩
  refine V_draws (acts [11]) (only b16) [[0, 1, 2, 3, 4, 5, 6, 7, 8, 9, 10, 11]] (by kernel_rfl) (by repeat first | exact sure_body (by first | (rintro _ _ (⟨_, _, _, h, _⟩ | ⟨_, h, _⟩) <;> exact ⟨_, h⟩)) | refine sure_then ?_ | refine sure_block ?_ | refine sure_join ?_) (by kernel_rfl) ?_
  intro w20 hk19 he21 L hL22
  have hsz23 := Keep.size hk19
  replace hxb := hxb.k0 hk19
  replace hat11 := hat11.keep hk19 id
  replace hat16 := hat16.keep hk19 id
  replace hk8 := hk8.tn hk19
  have qhxb := hxb
  have qhat11 := hat11
  have K24 : Keep (only b16) w20 w20 := Keep.refl _ _
  obtain rfl := List.mem_singleton.1 hL22
  refine Gn [3, 4, 5, 6, 7, 8, 9, 10, 11] [0, 4, 5, 6, 25, 26, 27, 28, 29, 33] <| Mc 0 (sl_ b16 o16 ds.length 10) qhxb (by show ¬ (_ = _); omega) rfl <| Gs [7, 8, 9, 10, 11] [(0, sl_ b11 o11 fs.length cap),(4, pt b4),(5, nt s),(6, nt (i : Int)),(25, sl_ b11 o11 fs.length cap),(26, nt (i : Int)),(27, .pointer (some ⟨b11, o11 + i * 1, none⟩)),(28, nt x12),(29, .bool (decide (x12 > 1073741824))),(34, sl_ b16 o16 ds.length 10),(35, nt (i : Int)),(36, sl_ b11 o11 fs.length cap),(37, nt (i : Int))] <| Gi (b := b11) (o := o11) (len := fs.length) (cap := cap) (j := i) 3 1 8 .i64 <| GI_cellR 3 (.tmp 38) (o11 + i * 1) (nt x12) (some 39) (by kernel_rfl) (by kernel_rfl) (by kernel_rfl) qhat11.blk (by show ¬ (_ = _); omega) (m := 1) (by kernel_rfl) (AtR.cell0 qhat11 (es_at hx13) rfl) <| Gi (b := b16) (o := o16) (len := ds.length) (cap := 10) (j := i) 114 3 40 .i64 <| Gn [11] [0, 4, 5, 6, 25, 26, 27, 28, 29, 39, 41] <| GI_final 11 (by kernel_rfl) (by kernel_rfl) ?_
  obtain ⟨x25, hx26⟩ := exAt (xs := ds) (i := i)
  obtain ⟨_, hde⟩ := dsN_at (by rw [← hds]; exact hx26)
  rw [if_neg (by omega)] at hde
  subst hde
  refine Ts1 (DE.mk x12 0 none 0 [] : DE) 0 (nt x12) hat16 hx26 (by simp [DE.cells, over]) ?_
  intro w27 hat31 hk29 hz30 hlhx32 hx32
  have hsz33 := Keep.size hk29
  replace hxb := hxb.k1 hk29
  replace hat11 := hat11.keep hk29 (by show ¬ (_ = _); omega)
  replace hk8 := Keep.fresh hk8 hk29 (by intro i hi hs; exact .inl (by show i = _; rw [show i = b16 from hs]; exact hbA))
  refine Oe <| V_region <| On 3 [0, 4, 6, 25, 26, 27, 28, 29, 42, 43, 44] <| Oi (b := b11) (o := o11) (len := fs.length) (cap := cap) (j := i) (some 45) 49 (.tmp 43) (.tmp 44) 3 1 8 .i64 <| OI_cellR 3 (.tmp 45) (o11 + i * 1) (nt x12) (some 46) (by kernel_rfl) (by kernel_rfl) hat11.blk (m := 1) (by kernel_rfl) (AtR.cell0 hat11 (es_at hx13) rfl) ?_
  have hw34 : i64.wrap (s + x12) = s + x12 := wrp
  refine On 6 [0, 4, 6, 25, 26, 27, 28, 29, 47] <| Oq (u := nt (i64.wrap (s + x12))) (v := nt (s + x12)) 47 (by rw [hw34]) <| On 7 [0, 4, 5, 6, 25, 26, 27, 28, 29] <| OI_end rfl <| X_block <| X_then <| V_region ?_
  have hw35 : i64.wrap ((i : Int) + 1) = ((i + 1 : Nat) : Int) := wrp
  refine On 2 [0, 4, 5, 18, 25, 26, 27, 28, 29] <| Oq (u := nt (i64.wrap ((i : Int) + 1))) (v := nt ((i + 1 : Nat) : Int)) 18 (by rw [hw35]) <| Os 3 [(0, sl_ b11 o11 fs.length cap),(4, pt b4),(5, nt (s + x12)),(6, nt ((i + 1 : Nat) : Int)),(25, sl_ b11 o11 fs.length cap),(26, nt (i : Int)),(27, .pointer (some ⟨b11, o11 + i * 1, none⟩)),(28, nt x12),(29, .bool (decide (x12 > 1073741824)))] <| OI_end rfl ?_
  exact V_again (k7 - 1) (by omega) [(0, sl_ b11 o11 fs.length cap),(4, pt b4),(5, nt (s + x12)),(6, nt ((i + 1 : Nat) : Int))] rfl ⟨i + 1, (some ⟨b16, o16, none⟩), ds.set i (DE.mk x12 0 none 0 []), s + x12, by omega, by rw [hds, dsN_step hx13], by simp only [List.length_set]; exact hxb, At.slt hat31, (fun q h => by have h3 := inA_some h; omega),(fun q h => by have h3 := inA_some h; omega), by rw [hts, sumI_app, ← hs], fun y hy => by rw [hts] at hy; rcases List.mem_append.1 hy with h | h; exact hok y h; (rw [List.mem_singleton.1 h]; omega), hk8, rfl⟩
 refine V_exit <| X_exit_then <| X_exit_then <| X_exit_here <| X_then <| V_seq <| Vn [4, 49] <| Vi (s > 1073741824) (fun hc36 => ?_) (fun hc36 => ?_)
 ·
  refine Vs [(2, .pointer none),(3, nt 1)] <| Rt ?_
  have hie : i = fs.length := by omega
  rw [hie, List.take_length] at hs
  exact X_return _ rfl (.inr ⟨fun h => by have h9 := h.2.2; rw [tot_new 10 fs (by omega)] at h9; omega, rfl, hK0⟩)
 refine Vsk <| Vs [(2, pt b4),(3, nt 0)] <| V_ret ?_
 have hie : i = fs.length := by omega
 rw [hie, List.take_length] at hs hok
 rw [hie] at hds
 have hokp : okP fs := ⟨by omega, hok, by rw [tot_new 10 fs (by omega)]; omega⟩
 exact X_return _ rfl (.inl ⟨hokp, b4, (fun q => inA A2 q ∨ q = b4), rfl, ⟨newX_inv hokp, okC_nil, .inr rfl, fun q hq => by rcases hq with h | h; (have h1 := lt2 q h; omega); omega, A2, 10, ds, ⟨hxb, hA2, fun q hq => ⟨.inl hq, (ow2 q hq).2⟩, by rw [hds]; exact dsN_acc (by omega), fun j d hd => by rw [hds] at hd; obtain ⟨_, rfl⟩ := dsN_at hd; exact ⟨rfl, SlT.nil _ _ _, fun q hq => (inA_none hq).elim⟩⟩⟩, hK0, fun q hq => by rcases hq with h | h; (have h1 := ow2 q h; omega); omega⟩)
end Go.Al
namespace Go.Al
open Go Go.RowKit Go.Proofs
def sbQ (fs : List Int) : Nat → RW
  | 0 => acQ fs
  | i + 1 => rwSub actTs (sbQ fs i) (1 + (i : Int)) (Int.tmod (i : Int) 3) 0 z0 0
def nRef (refs : Int) : Nat := min refs.toNat 5
structure PrX (B H F G X Y Z : Nat → Prop) (w : World) (b r g v l x y z : Nat) (ts : List Trk) (q : RW) : Prop where
  blk : Blk w b [pt l, pt v, pt r, pt x, pt y, pt z] 38
  hr : Rfr H w r g ts q.rs
  hv : VotT F w v q.s
  hl : Led G w l q.xs q.cs
  hx : DLd X w x q.xs q.cs
  hy : DVt Y w y q.s
  hz : DRf Z w z ts q.rs
  inH : ∀ q, H q → B q ∧ q ≠ b
  inF : ∀ q, F q → B q ∧ q ≠ b
  inG : ∀ q, G q → B q ∧ q ≠ b
  inX : ∀ q, X q → B q ∧ q ≠ b
  inY : ∀ q, Y q → B q ∧ q ≠ b
  inZ : ∀ q, Z q → B q ∧ q ≠ b
  dHF : ∀ q, H q → ¬ F q
  dHG : ∀ q, H q → ¬ G q
  dHX : ∀ q, H q → ¬ X q
  dHY : ∀ q, H q → ¬ Y q
  dHZ : ∀ q, H q → ¬ Z q
  dFG : ∀ q, F q → ¬ G q
  dFX : ∀ q, F q → ¬ X q
  dFY : ∀ q, F q → ¬ Y q
  dFZ : ∀ q, F q → ¬ Z q
  dGX : ∀ q, G q → ¬ X q
  dGY : ∀ q, G q → ¬ Y q
  dGZ : ∀ q, G q → ¬ Z q
  dXY : ∀ q, X q → ¬ Y q
  dXZ : ∀ q, X q → ¬ Z q
  dYZ : ∀ q, Y q → ¬ Z q
def Pr (B : Nat → Prop) (w : World) (b : Nat) (ts : List Trk) (q : RW) : Prop := (∀ q, B q → q < w.heap.size) ∧ B b ∧ ∃ H F G X Y Z r g v l x y z, PrX B H F G X Y Z w b r g v l x y z ts q
section
variable {B S : Nat → Prop} {w w' : World} {b N : Nat} {ts : List Trk} {q : RW}
theorem Pr.lt (h : Pr B w b ts q) : ∀ q, B q → q < w.heap.size := h.1
theorem Pr.at_ (h : Pr B w b ts q) : B b := h.2.1
theorem Pr.keep (h : Pr B w b ts q) (k : Keep S w w') (hS : ∀ q, B q → ¬ S q) : Pr B w' b ts q := by
  obtain ⟨h1, h2, H, F, G, X, Y, Z, r, g, v, l, x, y, z, h⟩ := h
  exact ⟨fun q hq => Nat.lt_of_lt_of_le (h1 q hq) k.size, h2, H, F, G, X, Y, Z, r, g, v, l, x, y, z, { h with blk := h.blk.keep k (hS _ h2), hr := h.hr.keep k (fun q hq => hS q (h.inH q hq).1), hv := h.hv.keep k (fun q hq => hS q (h.inF q hq).1), hl := h.hl.keep k (fun q hq => hS q (h.inG q hq).1), hx := h.hx.keep k (fun q hq => hS q (h.inX q hq).1), hy := h.hy.keep k (fun q hq => hS q (h.inY q hq).1), hz := h.hz.keep k (fun q hq => hS q (h.inZ q hq).1) }⟩
theorem Pr.quiet (h : Pr B w b ts q) (k : Keep (lb N w) w w') : Pr B w' b ts q := by
  obtain ⟨h1, h2, H, F, G, X, Y, Z, r, g, v, l, x, y, z, h⟩ := h
  exact ⟨fun q hq => Nat.lt_of_lt_of_le (h1 q hq) k.size, h2, H, F, G, X, Y, Z, r, g, v, l, x, y, z, { h with blk := h.blk.quiet k, hr := h.hr.quiet k, hv := h.hv.quiet k, hl := h.hl.quiet k, hx := h.hx.quiet k, hy := h.hy.quiet k, hz := h.hz.quiet k }⟩
end
theorem PrX.pack {B H F G X Y Z : Nat → Prop} {w : World} {b r g v l x y z N : Nat} {ts : List Trk} {q : RW} (hb : Blk w b [pt l, pt v, pt r, pt x, pt y, pt z] 38) (hr : Rfr H w r g ts q.rs) (hv : VotT F w v q.s) (hl : Led G w l q.xs q.cs) (hx : DLd X w x q.xs q.cs) (hy : DVt Y w y q.s) (hz : DRf Z w z ts q.rs)
    (dHF : ∀ q, H q → ¬ F q) (dHG : ∀ q, H q → ¬ G q) (dHX : ∀ q, H q → ¬ X q) (dHY : ∀ q, H q → ¬ Y q) (dHZ : ∀ q, H q → ¬ Z q) (dFG : ∀ q, F q → ¬ G q) (dFX : ∀ q, F q → ¬ X q) (dFY : ∀ q, F q → ¬ Y q) (dFZ : ∀ q, F q → ¬ Z q) (dGX : ∀ q, G q → ¬ X q) (dGY : ∀ q, G q → ¬ Y q) (dGZ : ∀ q, G q → ¬ Z q) (dXY : ∀ q, X q → ¬ Y q) (dXZ : ∀ q, X q → ¬ Z q) (dYZ : ∀ q, Y q → ¬ Z q) (oH : ∀ q, H q → q ≠ b) (oF : ∀ q, F q → q ≠ b) (oG : ∀ q, G q → q ≠ b) (oX : ∀ q, X q → q ≠ b) (oY : ∀ q, Y q → q ≠ b) (oZ : ∀ q, Z q → q ≠ b) (hB : B b) (rH : ∀ q, H q → B q ∨ N ≤ q) (rF : ∀ q, F q → B q ∨ N ≤ q) (rG : ∀ q, G q → B q ∨ N ≤ q) (rX : ∀ q, X q → B q ∨ N ≤ q) (rY : ∀ q, Y q → B q ∨ N ≤ q) (rZ : ∀ q, Z q → B q ∨ N ≤ q) :
    ∃ B', Pr B' w b ts q ∧ ∀ q, B' q → B q ∨ N ≤ q := by
  refine ⟨fun q => q = b ∨ H q ∨ F q ∨ G q ∨ X q ∨ Y q ∨ Z q, ⟨?_, .inl rfl, H, F, G, X, Y, Z, r, g, v, l, x, y, z, hb, hr, hv, hl, hx, hy, hz, fun q h => ⟨.inr (.inl h), oH q h⟩, fun q h => ⟨.inr (.inr (.inl h)), oF q h⟩, fun q h => ⟨.inr (.inr (.inr (.inl h))), oG q h⟩, fun q h => ⟨.inr (.inr (.inr (.inr (.inl h)))), oX q h⟩, fun q h => ⟨.inr (.inr (.inr (.inr (.inr (.inl h))))), oY q h⟩, fun q h => ⟨.inr (.inr (.inr (.inr (.inr (.inr h))))), oZ q h⟩, dHF, dHG, dHX, dHY, dHZ, dFG, dFX, dFY, dFZ, dGX, dGY, dGZ, dXY, dXZ, dYZ⟩, ?_⟩
  · rintro q (rfl | h | h | h | h | h | h)
    · exact hb.lt
    · exact hr.lt q h
    · exact hv.lt q h
    · exact hl.lt q h
    · exact hx.lt q h
    · exact hy.lt q h
    · exact hz.lt q h
  · rintro q (rfl | h | h | h | h | h | h)
    · exact .inl hB
    · exact rH q h
    · exact rF q h
    · exact rG q h
    · exact rX q h
    · exact rY q h
    · exact rZ q h
theorem new6_yes (A : Option Addr) (cap : Nat) (fs : List Int) (w : World) (hA : ArgT w 1 intc A cap fs) (hn : fs.length ≤ 100000) (hok : okP fs) : Calls Tryz.prog 18 #[.slice A fs.length cap] w fun e w' => ∃ x F, e = .returned (.tuple #[pt x, nt 0]) ∧ DLd F w' x (newX fs 10) [] ∧ Keep none_ w w' ∧ (∀ q, F q → w.heap.size ≤ q) :=
  (new6_spec A cap fs w hA (by omega)).mono (by
    rintro e w' (⟨_, h⟩ | ⟨h, _⟩)
    · exact h
    · exact absurd hok h)
set_option maxHeartbeats 2000000 in
theorem begin_ac (A : Option Addr) (cap : Nat) (fs : List Int) (refs : Int) (w : World) (hA0 : ArgT w 1 intc A cap fs) (hn : fs.length ≤ 100000) : Calls Tryz.prog 9 #[.slice A fs.length cap, nt refs] w fun e w' => ∃ b B, e = .returned (pt b) ∧ Pr B w' b actTs (sbQ fs (nRef refs)) ∧ Keep none_ w w' ∧ (∀ q, B q → w.heap.size ≤ q) := by
 have hA := hA0
 have hK0 := Keep.refl none_ w
 refine eV ?_
 refine Vr <| On 1 [0, 1] <| Oer <| On 1 [0, 1, 5] <| Oe <| V_seq <| Vn [0, 1, 5, 6] <| V_block <| Vp [(0, .slice A fs.length cap),(1, nt refs),(5, .slice none 0 0),(6, nt 0)] <| V_loop (fun k wI e => ∃ i : Nat, ∃ A2 : Option Addr, ∃ cap2 : Nat, ∃ ms : List Int, (k + i = 10) ∧ (i ≤ 10) ∧ (ms = frL fs i) ∧ (SlT wI 1 intc A2 cap2 ms) ∧ (∀ q, inA A2 q → w.heap.size ≤ q) ∧ Keep none_ w wI ∧ e = [(0, .slice A fs.length cap),(1, nt refs),(5, .slice A2 ms.length cap2),(6, nt (i : Int))]) 10 ⟨0, none, 0, [], by omega, by omega, rfl, SlT.nil _ _ _, fun q h => (inA_none h).elim, Keep.refl _ _, rfl⟩ ?_
 rintro k2 w1 _ ⟨i, A2, cap2, ms, hki, hi10, hms, hA2, ow2, hk3, rfl⟩
 have hsz4 := Keep.size hk3
 replace hA := ArgT.keep0 hA hk3
 replace hK0 := hK0.tn hk3
 have hzhk3 := Keep.size hk3
 have lt2 := SlT.lt hA2
 have hml : ms.length = i := by rw [hms, frL_len]
 refine V_seq <| Vn [0, 1, 5, 6, 18] <| Vi ((i : Int) < 10) (fun hc5 => ?_) (fun hc5 => ?_)
 ·
  refine Vsk <| V_seq <| V_block <| Vr <| On 1 [0, 1, 6, 21] <| OI_slit (E := 3) (zv := nt 0) (sz := 1) (by_ := 8) 49 1 #[(0, (Operand.const (Value.int IntKind.i64 100)))] [nt 100] [nt 100] (some 22) (by kernel_rfl) (by kernel_rfl) (by kernel_rfl) (by omega) rfl (by omega) (by intro v hv; simp only [List.mem_cons, List.not_mem_nil, or_false] at hv; rcases hv with rfl <;> rfl) (by kernel_rfl) rfl ?_
  intro b6 w6 e6 hb6 k6 z6
  have hsz7 := Keep.size k6
  replace hA := ArgT.keep0 hA k6
  replace hA2 := hA2.keep0 k6
  replace hk3 := hk3.tn k6
  have hb6lt := hb6.lt
  refine OI_append (t := 49) (at2 := 49) (E := 3) (E2 := 3) (sz := 1) (by_ := 8) (zv := nt 0) (m := ms.length) (k := 1) (.tmp 21) (.tmp 22) (.slice A2 ms.length cap2) (sl_ b6 0 1 1) (some 23) (by kernel_rfl) (by kernel_rfl) (by kernel_rfl) (by kernel_rfl) (by kernel_rfl) (by kernel_rfl) (by kernel_rfl) (SlT.slr hA2) (slr_one hb6 (intc_len 100)) (intc_one 100) (by first | omega | (simp only [List.length_nil]; omega)) (by omega) (by first | omega | (simp only [List.length_nil]; omega)) (by omega) ?_
  intro vv9 w8 hap
  obtain ⟨A8, cap8, rfl, hA8, hk8, own8x⟩ := app_one (f := intc) (xs := ms) (x := 100) (A := A2) (cap := cap2) hap (fun x _ => intc_len x) (intc_len _)
  have own8 : ∀ q, inA A8 q → w.heap.size ≤ q := fun q hq => by rcases own8x q hq with h | h; exact ow2 q h; (show w.heap.size ≤ q; omega)
  have hsz9 := Keep.size hk8
  replace hA := ArgT.keep hA hk8 hA0 (fun k hk hs => by have h1 := ow2 k hs; have h2 := lt2 k hs; omega)
  replace hk3 := Keep.fresh hk3 hk8 (by intro i hi hs; first | exact hs | (exfalso; have h1 := ow2 i hs; have h2 := lt2 i hs; omega) | (have h1 := ow2 i hs; have h2 := lt2 i hs; show _ ∨ _; omega))
  have lt8 := SlT.lt hA8
  refine On 4 [0, 1, 5, 6] <| Oer <| Oen [0, 1, 5, 6, 27] <| Vi ((i : Int) < (fs.length : Int)) (fun hc10 => ?_) (fun hc10 => ?_)
  ·
   have hapl : (ms ++ [100]).length = i + 1 := by rw [List.length_append, hml]; rfl
   refine V_region <| On 4 [0, 1, 5, 6, 28, 29, 30, 31] ?_
   obtain ⟨b11, o11, L11, rfl, hat11⟩ := ArgT.open_ hA (by first | omega | (simp only [List.length_map]; omega) | (simp; done) | (simp; omega))
   have hb11lt0 := ArgT.lt hA0 (by first | omega | (simp only [List.length_map]; omega) | (simp; done) | (simp; omega))
   have hb11lt := hat11.blk.lt
   refine Oi (b := b11) (o := o11) (len := fs.length) (cap := cap) (j := i) (some 32) 49 (.tmp 30) (.tmp 31) 3 1 8 .i64 ?_
   obtain ⟨x12, hx13⟩ := exAt (xs := fs) (i := i)
   refine OI_cellR 3 (.tmp 32) (o11 + i * 1) (nt x12) (some 33) (by kernel_rfl) (by kernel_rfl) hat11.blk (m := 1) (by kernel_rfl) (AtR.cell0 hat11 (es_at hx13) rfl) <| Os 8 [(0, sl_ b11 o11 fs.length cap),(1, nt refs),(5, .slice A8 ((ms ++ [100]).length) cap8),(6, nt (i : Int)),(28, .slice A8 ((ms ++ [100]).length) cap8),(29, nt (i : Int)),(35, nt (i64.wrap (100 + (bAnd x12 1023))))] ?_
   obtain ⟨b14, o14, L14, T14, rfl, hat14⟩ := SlT.opn hA8
   have hb14lt := hat14.blk.lt
   have hob15 := own8 b14 ⟨_, rfl, rfl⟩
   have hob16 := lt8 b14 ⟨_, rfl, rfl⟩
   refine Oi (b := b14) (o := o14) (len := (ms ++ [100]).length) (cap := cap8) (j := i) (some 36) 49 (.tmp 28) (.tmp 29) 3 1 8 .i64 ?_
   obtain ⟨x17, hx18⟩ := exAt (xs := ms ++ [100]) (i := i)
   refine Ts1 (i64.wrap (100 + (bAnd x12 1023)) : Int) 0 (nt (i64.wrap (100 + (bAnd x12 1023)))) hat14 hx18 (by simp [intc, over]) ?_
   intro w19 hat23 hk21 hz22 hlhx24 hx24
   have hsz25 := Keep.size hk21
   replace hk3 := Keep.fr hk3 hk21
   refine Op_ [(0, sl_ b11 o11 fs.length cap),(1, nt refs),(5, sl_ b14 o14 ((ms ++ [100]).length) cap8),(6, nt (i : Int))] <| Oq (u := sl_ b14 o14 ((ms ++ [100]).length) cap8) (v := sl_ b14 o14 (((ms ++ [100]).set i (i64.wrap (100 + (bAnd x12 1023)))).length) cap8) 5 (by rw [List.length_set]) <| OI_end rfl <| X_block <| X_then <| V_region ?_
   have hw26 : i64.wrap ((i : Int) + 1) = ((i + 1 : Nat) : Int) := wrp
   refine On 2 [0, 1, 5, 20] <| Oq (u := nt (i64.wrap ((i : Int) + 1))) (v := nt ((i + 1 : Nat) : Int)) 20 (by rw [hw26]) <| Os 3 [(0, sl_ b11 o11 fs.length cap),(1, nt refs),(5, sl_ b14 o14 (((ms ++ [100]).set i (i64.wrap (100 + (bAnd x12 1023)))).length) cap8),(6, nt ((i + 1 : Nat) : Int))] <| OI_end rfl ?_
   exact V_again (k2 - 1) (by omega) [(0, sl_ b11 o11 fs.length cap),(1, nt refs),(5, sl_ b14 o14 (((ms ++ [100]).set i (i64.wrap (100 + (bAnd x12 1023)))).length) cap8),(6, nt ((i + 1 : Nat) : Int))] rfl ⟨i + 1, (some ⟨b14, o14, none⟩), cap8, (ms ++ [100]).set i (i64.wrap (100 + (bAnd x12 1023))), by omega, by omega, by rw [frL_step, ← hms, frA_some hx13, ← hml]; simp, At.slt hat23, (fun q h => by have h3 := inA_some h; omega), hk3, rfl⟩
  have hapl : (ms ++ [100]).length = i + 1 := by rw [List.length_append, hml]; rfl
  refine V_skip <| X_block <| X_then <| V_region ?_
  have hw27 : i64.wrap ((i : Int) + 1) = ((i + 1 : Nat) : Int) := wrp
  refine On 2 [0, 1, 5, 20] <| Oq (u := nt (i64.wrap ((i : Int) + 1))) (v := nt ((i + 1 : Nat) : Int)) 20 (by rw [hw27]) <| Os 3 [(0, .slice A fs.length cap),(1, nt refs),(5, .slice A8 ((ms ++ [100]).length) cap8),(6, nt ((i + 1 : Nat) : Int))] <| OI_end rfl ?_
  exact V_again (k2 - 1) (by omega) [(0, .slice A fs.length cap),(1, nt refs),(5, .slice A8 ((ms ++ [100]).length) cap8),(6, nt ((i + 1 : Nat) : Int))] rfl ⟨i + 1, A8, cap8, ms ++ [100], by omega, by omega, by rw [frL_step, ← hms, frA_none (by omega)], hA8, own8, hk3, rfl⟩
 refine V_exit <| X_exit_then <| X_exit_then <| X_exit_here <| X_then <| Vr <| On 1 [1, 5, 38] ?_
 have hie : i = 10 := by omega
 replace hms : ms = frL fs 10 := by rw [hms, hie]
 refine Kg (new_okA A2 cap2 ms _ (SlT.arg hA2) (by omega) (by rw [hms]; exact frL_ok fs)) ?_
 rintro _ w30 ⟨l32, F33, rfl, ho34, hk31, hge35⟩
 refine ⟨_, rfl, ?_⟩
 have hsz36 := Keep.size hk31
 replace hA2 := hA2.keep0 hk31
 replace hK0 := hK0.tn hk31
 replace ho34 : Led F33 w30 l32 (frX fs) [] := by rw [hms] at ho34; exact ho34
 have own37 : ∀ q, F33 q → w1.heap.size ≤ q := fun q hq => by have h1 := hge35 q hq; omega
 have lt38 := Led.lt ho34
 have dis39 : ∀ q, F33 q → ¬ inA A2 q := fun q h1 h2 => by have h3 := hge35 q h1; have h4 := lt2 q h2; omega
 have hl32lt : l32 < w30.heap.size := Led.lt ho34 _ (Led.at_ ho34)
 have hl32ge := hge35 _ (Led.at_ ho34)
 refine On 7 [1, 5, 7, 8] <| Oer <| On 1 [1, 7, 8, 43] <| Kg (new6_yes A2 cap2 ms _ (SlT.arg hA2) (by omega) (by rw [hms]; exact frL_ok fs)) ?_
 rintro _ w40 ⟨x42, F43, rfl, ho44, hk41, hge45⟩
 refine ⟨_, rfl, ?_⟩
 have hsz46 := Keep.size hk41
 replace hK0 := hK0.tn hk41
 replace ho34 := ho34.keep hk41 nk
 replace ho44 : DLd F43 w40 x42 (frX fs) [] := by rw [hms] at ho44; exact ho44
 have own47 : ∀ q, F43 q → w30.heap.size ≤ q := fun q hq => by have h1 := hge45 q hq; omega
 have lt48 := DLd.lt ho44
 have dis49 : ∀ q, F43 q → ¬ inA A2 q := fun q h1 h2 => by have h3 := hge45 q h1; have h4 := lt2 q h2; omega
 have dis50 : ∀ q, F43 q → ¬ F33 q := fun q h1 h2 => by have h3 := hge45 q h1; have h4 := lt38 q h2; omega
 have hx42lt : x42 < w40.heap.size := DLd.lt ho44 _ (DLd.at_ ho44)
 have hx42ge := hge45 _ (DLd.at_ ho44)
 refine On 7 [1, 7, 8, 9] <| Oer <| Kg (tracks_spec _) ?_
 rintro _ w53 ⟨A55, cap55, rfl, hA55, ow55, hk54⟩
 refine ⟨_, rfl, ?_⟩
 have hsz56 := Keep.size hk54
 replace hK0 := hK0.tn hk54
 replace ho34 := ho34.keep hk54 nk
 replace ho44 := DLd.keep ho44 hk54 nk
 have lt55 := SlT.lt hA55
 have dis57 : ∀ q, inA A55 q → ¬ F33 q := fun q h1 h2 => by have h3 := ow55 q h1; have h4 := lt38 q h2; omega
 have dis58 : ∀ q, inA A55 q → ¬ F43 q := fun q h1 h2 => by have h3 := ow55 q h1; have h4 := lt48 q h2; omega
 refine Kg (rnw_spec A55 cap55 actTs _ hA55 actTs_ok) ?_
 rintro _ w61 ⟨r63, gg67, H64, rfl, hR65, hk62, hge66⟩
 refine ⟨_, rfl, ?_⟩
 have hsz68 := Keep.size hk62
 replace hK0 := hK0.tn hk62
 replace ho34 := ho34.keep hk62 nk
 replace ho44 := DLd.keep ho44 hk62 nk
 have own69 : ∀ q, H64 q → w53.heap.size ≤ q := fun q hq => by have h1 := hge66 q hq; omega
 have lt70 := Rfr.lt hR65
 have dis71 : ∀ q, H64 q → ¬ inA A2 q := fun q h1 h2 => by have h3 := hge66 q h1; have h4 := lt2 q h2; omega
 have dis72 : ∀ q, H64 q → ¬ inA A55 q := fun q h1 h2 => by have h3 := hge66 q h1; have h4 := lt55 q h2; omega
 have dis73 : ∀ q, H64 q → ¬ F33 q := fun q h1 h2 => by have h3 := hge66 q h1; have h4 := lt38 q h2; omega
 have dis74 : ∀ q, H64 q → ¬ F43 q := fun q h1 h2 => by have h3 := hge66 q h1; have h4 := lt48 q h2; omega
 have hr63lt : r63 < w61.heap.size := Rfr.lt hR65 _ (Rfr.at_ hR65)
 have hr63ge := hge66 _ (Rfr.at_ hR65)
 refine On 7 [1, 7, 8, 9, 11, 12] <| Oer <| Kg (tracks_spec _) ?_
 rintro _ w77 ⟨A79, cap79, rfl, hA79, ow79, hk78⟩
 refine ⟨_, rfl, ?_⟩
 have hsz80 := Keep.size hk78
 replace hK0 := hK0.tn hk78
 replace ho34 := ho34.keep hk78 nk
 replace ho44 := DLd.keep ho44 hk78 nk
 replace hR65 := hR65.keep hk78 nk
 have lt79 := SlT.lt hA79
 have dis81 : ∀ q, inA A79 q → ¬ F33 q := fun q h1 h2 => by have h3 := ow79 q h1; have h4 := lt38 q h2; omega
 have dis82 : ∀ q, inA A79 q → ¬ F43 q := fun q h1 h2 => by have h3 := ow79 q h1; have h4 := lt48 q h2; omega
 have dis83 : ∀ q, inA A79 q → ¬ H64 q := fun q h1 h2 => by have h3 := ow79 q h1; have h4 := lt70 q h2; omega
 refine Kg (rnew12_spec A79 cap79 actTs _ hA79 actTs_ok) ?_
 rintro _ w84 ⟨x86, F87, rfl, ho88, hk85, hge89⟩
 refine ⟨_, rfl, ?_⟩
 have hsz90 := Keep.size hk85
 replace hK0 := hK0.tn hk85
 replace ho34 := ho34.keep hk85 nk
 replace ho44 := DLd.keep ho44 hk85 nk
 replace hR65 := hR65.keep hk85 nk
 have own91 : ∀ q, F87 q → w77.heap.size ≤ q := fun q hq => by have h1 := hge89 q hq; omega
 have lt92 := DRf.lt ho88
 have dis93 : ∀ q, F87 q → ¬ inA A2 q := fun q h1 h2 => by have h3 := hge89 q h1; have h4 := lt2 q h2; omega
 have dis94 : ∀ q, F87 q → ¬ inA A55 q := fun q h1 h2 => by have h3 := hge89 q h1; have h4 := lt55 q h2; omega
 have dis95 : ∀ q, F87 q → ¬ inA A79 q := fun q h1 h2 => by have h3 := hge89 q h1; have h4 := lt79 q h2; omega
 have dis96 : ∀ q, F87 q → ¬ F33 q := fun q h1 h2 => by have h3 := hge89 q h1; have h4 := lt38 q h2; omega
 have dis97 : ∀ q, F87 q → ¬ F43 q := fun q h1 h2 => by have h3 := hge89 q h1; have h4 := lt48 q h2; omega
 have dis98 : ∀ q, F87 q → ¬ H64 q := fun q h1 h2 => by have h3 := hge89 q h1; have h4 := lt70 q h2; omega
 have hx86lt : x86 < w84.heap.size := DRf.lt ho88 _ (DRf.at_ ho88)
 have hx86ge := hge89 _ (DRf.at_ ho88)
 refine On 7 [1, 7, 8, 9, 11, 12, 13] <| Oer <| On 1 [1, 7, 8, 9, 11, 12, 13, 57] <| Kg (new_votT _) ?_
 rintro _ w103 ⟨g105, F106, rfl, ho107, hk104, hge108⟩
 refine ⟨_, rfl, ?_⟩
 have hsz109 := Keep.size hk104
 replace hK0 := hK0.tn hk104
 replace ho34 := ho34.keep hk104 nk
 replace ho44 := DLd.keep ho44 hk104 nk
 replace hR65 := hR65.keep hk104 nk
 replace ho88 := DRf.keep ho88 hk104 nk
 have own110 : ∀ q, F106 q → w84.heap.size ≤ q := fun q hq => by have h1 := hge108 q hq; omega
 have lt111 := VotT.lt ho107
 have dis112 : ∀ q, F106 q → ¬ inA A2 q := fun q h1 h2 => by have h3 := hge108 q h1; have h4 := lt2 q h2; omega
 have dis113 : ∀ q, F106 q → ¬ inA A55 q := fun q h1 h2 => by have h3 := hge108 q h1; have h4 := lt55 q h2; omega
 have dis114 : ∀ q, F106 q → ¬ inA A79 q := fun q h1 h2 => by have h3 := hge108 q h1; have h4 := lt79 q h2; omega
 have dis115 : ∀ q, F106 q → ¬ F33 q := fun q h1 h2 => by have h3 := hge108 q h1; have h4 := lt38 q h2; omega
 have dis116 : ∀ q, F106 q → ¬ F43 q := fun q h1 h2 => by have h3 := hge108 q h1; have h4 := lt48 q h2; omega
 have dis117 : ∀ q, F106 q → ¬ H64 q := fun q h1 h2 => by have h3 := hge108 q h1; have h4 := lt70 q h2; omega
 have dis118 : ∀ q, F106 q → ¬ F87 q := fun q h1 h2 => by have h3 := hge108 q h1; have h4 := lt92 q h2; omega
 have hg105lt : g105 < w103.heap.size := VotT.lt ho107 _ (VotT.at_ ho107)
 have hg105ge := hge108 _ (VotT.at_ ho107)
 refine On 4 [1, 7, 8, 11, 12, 13, 57, 58, 59, 60] <| Kg (dnew_spec _) ?_
 rintro _ w121 ⟨g123, F124, rfl, ho125, hk122, hge126⟩
 refine ⟨_, rfl, ?_⟩
 have hsz127 := Keep.size hk122
 replace hK0 := hK0.tn hk122
 replace ho34 := ho34.keep hk122 nk
 replace ho44 := DLd.keep ho44 hk122 nk
 replace hR65 := hR65.keep hk122 nk
 replace ho88 := DRf.keep ho88 hk122 nk
 replace ho107 := ho107.keep hk122 nk
 have own128 : ∀ q, F124 q → w103.heap.size ≤ q := fun q hq => by have h1 := hge126 q hq; omega
 have lt129 := DVt.lt ho125
 have dis130 : ∀ q, F124 q → ¬ inA A2 q := fun q h1 h2 => by have h3 := hge126 q h1; have h4 := lt2 q h2; omega
 have dis131 : ∀ q, F124 q → ¬ inA A55 q := fun q h1 h2 => by have h3 := hge126 q h1; have h4 := lt55 q h2; omega
 have dis132 : ∀ q, F124 q → ¬ inA A79 q := fun q h1 h2 => by have h3 := hge126 q h1; have h4 := lt79 q h2; omega
 have dis133 : ∀ q, F124 q → ¬ F33 q := fun q h1 h2 => by have h3 := hge126 q h1; have h4 := lt38 q h2; omega
 have dis134 : ∀ q, F124 q → ¬ F43 q := fun q h1 h2 => by have h3 := hge126 q h1; have h4 := lt48 q h2; omega
 have dis135 : ∀ q, F124 q → ¬ H64 q := fun q h1 h2 => by have h3 := hge126 q h1; have h4 := lt70 q h2; omega
 have dis136 : ∀ q, F124 q → ¬ F87 q := fun q h1 h2 => by have h3 := hge126 q h1; have h4 := lt92 q h2; omega
 have dis137 : ∀ q, F124 q → ¬ F106 q := fun q h1 h2 => by have h3 := hge126 q h1; have h4 := lt111 q h2; omega
 have hg123lt : g123 < w121.heap.size := DVt.lt ho125 _ (DVt.at_ ho125)
 have hg123ge := hge126 _ (DVt.at_ ho125)
 refine On 7 [1, 7, 8, 11, 12, 63] <| Bx 38 [pt l32, pt g105, pt r63, pt x42, pt g123, pt x86] ?_
 intro b138 w138 e138 hb138 k138 z138
 have hsz139 := Keep.size k138
 replace hK0 := hK0.tn k138
 replace ho34 := ho34.keep k138 nk
 replace ho44 := DLd.keep ho44 k138 nk
 replace hR65 := hR65.keep k138 nk
 replace ho88 := DRf.keep ho88 k138 nk
 replace ho107 := ho107.keep k138 nk
 replace ho125 := DVt.keep ho125 k138 nk
 have hb138lt := hb138.lt
 refine On 9 [1, 7, 8, 11, 12, 15] <| Oe <| V_seq <| Vr <| On 18 [1, 15, 79, 82] <| Lr 1 (pt g105) hb138 <| Oen [1, 15, 85] <| Vf <| Vsk <| V_seq <| Vn [1, 15, 16] <| V_block ?_
 obtain ⟨B9, hp9, hB9⟩ := PrX.pack (B := fun q => w.heap.size ≤ q) (N := w.heap.size) (ts := actTs) (q := sbQ fs 0) hb138 hR65 ho107 ho34 ho44 ho125 ho88 (fun q h1 h2 => dis117 q h2 h1) dis73 dis74 (fun q h1 h2 => dis135 q h2 h1) (fun q h1 h2 => dis98 q h2 h1) dis115 dis116 (fun q h1 h2 => dis137 q h2 h1) dis118 (fun q h1 h2 => dis50 q h2 h1) (fun q h1 h2 => dis133 q h2 h1) (fun q h1 h2 => dis96 q h2 h1) (fun q h1 h2 => dis134 q h2 h1) (fun q h1 h2 => dis97 q h2 h1) dis136 (fun q h => by have h1 := own69 q h; have h2 := lt70 q h; omega) (fun q h => by have h1 := own110 q h; have h2 := lt111 q h; omega) (fun q h => by have h1 := own37 q h; have h2 := lt38 q h; omega) (fun q h => by have h1 := own47 q h; have h2 := lt48 q h; omega) (fun q h => by have h1 := own128 q h; have h2 := lt129 q h; omega) (fun q h => by have h1 := own91 q h; have h2 := lt92 q h; omega) (show w.heap.size ≤ b138 by omega) (fun q h => .inl (by have h1 := own69 q h; omega)) (fun q h => .inl (by have h1 := own110 q h; omega)) (fun q h => .inl (by have h1 := own37 q h; omega)) (fun q h => .inl (by have h1 := own47 q h; omega)) (fun q h => .inl (by have h1 := own128 q h; omega)) (fun q h => .inl (by have h1 := own91 q h; omega))
 have ow9 : ∀ q, B9 q → w.heap.size ≤ q := fun q hq => by rcases hB9 q hq with h | h; exact h; exact h
 have lt9 := Pr.lt hp9
 refine Vp [(1, nt refs),(15, pt b138),(16, nt 0)] <| V_loop (fun k wI e => ∃ i : Nat, ∃ F140 : Nat → Prop, (k + i = nRef refs) ∧ (i ≤ 5) ∧ (Pr F140 wI b138 actTs (sbQ fs i)) ∧ (∀ q, F140 q → w.heap.size ≤ q) ∧ (∀ q, F140 q → B9 q ∨ w138.heap.size ≤ q) ∧ Keep B9 w138 wI ∧ e = [(1, nt refs),(15, pt b138),(16, nt (i : Int))]) (nRef refs) ⟨0, B9, by omega, by omega, hp9, (fun q hq => by have h1 := ow9 q hq; have h2 := lt9 q hq; omega), fun q h => .inl h, Keep.refl _ _, rfl⟩ ?_
 rintro k145 w144 _ ⟨i, F140, hki, hi5, ho141, own142, rel143, hk146, rfl⟩
 have hsz147 := Keep.size hk146
 replace hK0 := Keep.fresh hK0 hk146 (by intro i hi hs; have h1 := ow9 i hs; have h2 := lt9 i hs; omega)
 have hzhk146 := Keep.size hk146
 have lt148 := Pr.lt ho141
 have hb138lt : b138 < w144.heap.size := Pr.lt ho141 _ (Pr.at_ ho141)
 have hnr : nRef refs = min refs.toNat 5 := rfl
 obtain ⟨hBlt8, hBb8, H8, F8, G8, X8, Y8, Z8, r8, g8, v8, l8, x8, y8, z8, hpr8⟩ := ho141
 have hb8 := hpr8.blk
 have hb8lt := hb8.lt
 have hb8ow := own142 _ hBb8
 have hr8 := hpr8.hr
 have owH8 : ∀ q, H8 q → (w.heap.size ≤ q) ∧ q ≠ b138 := fun q hq => by have h1 := own142 q (hpr8.inH q hq).1; have h2 := (hpr8.inH q hq).2; omega
 have ltH8 := Rfr.lt hr8
 have hr8lt := ltH8 _ (Rfr.at_ hr8)
 have hr8ow := owH8 _ (Rfr.at_ hr8)
 have rlH80 : ∀ q, H8 q → B9 q ∨ w138.heap.size ≤ q := fun q hq => rel143 q (hpr8.inH q hq).1
 have rbH8 : ∀ q, H8 q → F140 q ∨ w144.heap.size ≤ q := fun q hq => .inl (hpr8.inH q hq).1
 have hv8 := hpr8.hv
 have owF8 : ∀ q, F8 q → (w.heap.size ≤ q) ∧ q ≠ b138 := fun q hq => by have h1 := own142 q (hpr8.inF q hq).1; have h2 := (hpr8.inF q hq).2; omega
 have ltF8 := VotT.lt hv8
 have hv8lt := ltF8 _ (VotT.at_ hv8)
 have hv8ow := owF8 _ (VotT.at_ hv8)
 have rlF80 : ∀ q, F8 q → B9 q ∨ w138.heap.size ≤ q := fun q hq => rel143 q (hpr8.inF q hq).1
 have rbF8 : ∀ q, F8 q → F140 q ∨ w144.heap.size ≤ q := fun q hq => .inl (hpr8.inF q hq).1
 have hl8 := hpr8.hl
 have owG8 : ∀ q, G8 q → (w.heap.size ≤ q) ∧ q ≠ b138 := fun q hq => by have h1 := own142 q (hpr8.inG q hq).1; have h2 := (hpr8.inG q hq).2; omega
 have ltG8 := Led.lt hl8
 have hl8lt := ltG8 _ (Led.at_ hl8)
 have hl8ow := owG8 _ (Led.at_ hl8)
 have rlG80 : ∀ q, G8 q → B9 q ∨ w138.heap.size ≤ q := fun q hq => rel143 q (hpr8.inG q hq).1
 have rbG8 : ∀ q, G8 q → F140 q ∨ w144.heap.size ≤ q := fun q hq => .inl (hpr8.inG q hq).1
 have hx8 := hpr8.hx
 have owX8 : ∀ q, X8 q → (w.heap.size ≤ q) ∧ q ≠ b138 := fun q hq => by have h1 := own142 q (hpr8.inX q hq).1; have h2 := (hpr8.inX q hq).2; omega
 have ltX8 := DLd.lt hx8
 have hx8lt := ltX8 _ (DLd.at_ hx8)
 have hx8ow := owX8 _ (DLd.at_ hx8)
 have rlX80 : ∀ q, X8 q → B9 q ∨ w138.heap.size ≤ q := fun q hq => rel143 q (hpr8.inX q hq).1
 have rbX8 : ∀ q, X8 q → F140 q ∨ w144.heap.size ≤ q := fun q hq => .inl (hpr8.inX q hq).1
 have hy8 := hpr8.hy
 have owY8 : ∀ q, Y8 q → (w.heap.size ≤ q) ∧ q ≠ b138 := fun q hq => by have h1 := own142 q (hpr8.inY q hq).1; have h2 := (hpr8.inY q hq).2; omega
 have ltY8 := DVt.lt hy8
 have hy8lt := ltY8 _ (DVt.at_ hy8)
 have hy8ow := owY8 _ (DVt.at_ hy8)
 have rlY80 : ∀ q, Y8 q → B9 q ∨ w138.heap.size ≤ q := fun q hq => rel143 q (hpr8.inY q hq).1
 have rbY8 : ∀ q, Y8 q → F140 q ∨ w144.heap.size ≤ q := fun q hq => .inl (hpr8.inY q hq).1
 have hz8 := hpr8.hz
 have owZ8 : ∀ q, Z8 q → (w.heap.size ≤ q) ∧ q ≠ b138 := fun q hq => by have h1 := own142 q (hpr8.inZ q hq).1; have h2 := (hpr8.inZ q hq).2; omega
 have ltZ8 := DRf.lt hz8
 have hz8lt := ltZ8 _ (DRf.at_ hz8)
 have hz8ow := owZ8 _ (DRf.at_ hz8)
 have rlZ80 : ∀ q, Z8 q → B9 q ∨ w138.heap.size ≤ q := fun q hq => rel143 q (hpr8.inZ q hq).1
 have rbZ8 : ∀ q, Z8 q → F140 q ∨ w144.heap.size ≤ q := fun q hq => .inl (hpr8.inZ q hq).1
 refine V_seq <| Vr <| On 4 [1, 15, 16, 89] ?_
 by_cases hg149 : (i : Int) < refs
 ·
  refine Dt 89 hg149 <| Oen [1, 15, 16, 90, 91, 92] <| Vi ((i : Int) < 5) (fun hc150 => ?_) (fun hc150 => ?_)
  ·
   refine Vsk <| V_seq <| V_block <| V_seq <| V_draws (acts [17]) (fun q => q ≠ b138) [[0, 1, 2, 3, 4, 5, 6, 7, 8, 9, 10, 11, 12, 13, 14, 15, 16, 17]] (by kernel_rfl) (by repeat first | exact (by first | exact (by first | exact sure_body (by rintro _ _ ⟨_, _, h, _⟩; exact ⟨_, h⟩) | exact sure_body (by rintro _ _ ⟨_, _, h, _⟩; exact ⟨_, h⟩) | exact sure_body (by rintro _ _ ⟨h, _⟩; exact ⟨_, h⟩)) | exact sure_body (by rintro _ _ ⟨_, _, _, h, _⟩; exact ⟨_, h⟩)) | refine sure_then ?_ | refine sure_block ?_ | refine sure_join ?_) (by kernel_rfl) ?_
   intro w152 hk151 he153 L hL154
   have hsz155 := Keep.size hk151
   replace hb8 := hb8.k0 hk151
   replace hk146 := hk146.tn hk151
   replace hr8 := hr8.keep hk151 nk
   replace hv8 := hv8.keep hk151 nk
   replace hl8 := hl8.keep hk151 nk
   replace hx8 := DLd.keep hx8 hk151 nk
   replace hy8 := DVt.keep hy8 hk151 nk
   replace hz8 := DRf.keep hz8 hk151 nk
   have qhb8 := hb8
   have K156 : Keep (fun q => q ≠ b138) w152 w152 := Keep.refl _ _
   obtain rfl := List.mem_singleton.1 hL154
   refine Gn [3, 4, 5, 6, 7, 8, 9, 10, 11, 12, 13, 14, 15, 16, 17] [1, 15, 16, 90, 91, 97] <| Mc 2 (pt r8) qhb8 (by show ¬ (b138 ≠ b138); omega) rfl <| Gn [7, 8, 9, 10, 11, 12, 13, 14, 15, 16, 17] [1, 15, 16, 90, 91, 98, 101] <| Mc 0 (pt l8) qhb8 (by show ¬ (b138 ≠ b138); omega) rfl <| Gn [11, 12, 13, 14, 15, 16, 17] [1, 15, 16, 90, 91, 98, 102, 105] <| Mc 1 (pt v8) qhb8 (by show ¬ (b138 ≠ b138); omega) rfl ?_
   have hw157 : i64.wrap (1 + (i : Int)) = ((1 + i : Nat) : Int) := wrp
   refine Gn [14, 15, 16, 17] [1, 15, 16, 90, 91, 98, 102, 106, 108] <| Gq_ (u := nt (i64.wrap (1 + (i : Int)))) (v := nt ((1 + i : Nat) : Int)) 108 (by rw [hw157]) <| Gn [17] [1, 15, 16, 90, 91, 98, 102, 106, 108, 110, 111] <| GI_final 17 (by kernel_rfl) (by kernel_rfl) <| Kg (submit_spec H8 r8 g8 actTs (sbQ fs i).rs F8 v8 (sbQ fs i).s G8 l8 (sbQ fs i).xs (sbQ fs i).cs ((1 + i : Nat) : Int) (Int.tmod (i : Int) 3) z0 0 0 _ hr8 hv8 hl8 hpr8.dHF hpr8.dHG hpr8.dFG) ?_
   rintro _ w160 ⟨rfl, ⟨F162, F165, F168, ho163, ho166, ho169, hfr164, hfr167, hfr170, hdis171, hdis172, hdis173⟩, hk161⟩
   refine ⟨_, rfl, ?_⟩
   have hsz174 := Keep.size hk161
   replace hb8 := hb8.keep hk161 (fun hs => by rcases hs with hs | hs | hs; (have u9 : _ = g8 := hs; have u0 := owH8 _ (Rfr.atg hr8); have u1 := ltH8 _ (Rfr.atg hr8); omega); (have u0 := owF8 _ hs; have u1 := ltF8 _ hs; omega); (have u0 := owG8 _ hs; have u1 := ltG8 _ hs; omega))
   replace hk146 := Keep.fresh hk146 hk161 (fun i hi hs => by rcases hs with hs | hs | hs; (replace hs : H8 i := (by rw [show i = g8 from hs]; exact (Rfr.atg hr8)); rcases rlH80 i hs with h | h; exact h; (exfalso; omega)); (rcases rlF80 i hs with h | h; exact h; (exfalso; omega)); (rcases rlG80 i hs with h | h; exact h; (exfalso; omega)))
   replace hx8 := DLd.keep hx8 hk161 (fun q hq hs => by rcases hs with hs | hs | hs; exact hpr8.dHX q (by rw [show q = g8 from hs]; exact (Rfr.atg hr8)) hq; exact hpr8.dFX q hs hq; exact hpr8.dGX q hs hq)
   replace hy8 := DVt.keep hy8 hk161 (fun q hq hs => by rcases hs with hs | hs | hs; exact hpr8.dHY q (by rw [show q = g8 from hs]; exact (Rfr.atg hr8)) hq; exact hpr8.dFY q hs hq; exact hpr8.dGY q hs hq)
   replace hz8 := DRf.keep hz8 hk161 (fun q hq hs => by rcases hs with hs | hs | hs; exact hpr8.dHZ q (by rw [show q = g8 from hs]; exact (Rfr.atg hr8)) hq; exact hpr8.dFZ q hs hq; exact hpr8.dGZ q hs hq)
   have own176 : ∀ q, F162 q → w.heap.size ≤ q ∧ q ≠ b138 := fun q hq => by rcases hfr164 q hq with h | h; (have h1 := owH8 q h; have h2 := ltH8 q h; omega); omega
   have lt175 := Rfr.lt ho163
   have rel177 : ∀ q, F162 q → B9 q ∨ w138.heap.size ≤ q := fun q hq => by rcases hfr164 q hq with h | h; exact rlH80 q h; exact .inr (by omega)
   have rel178 : ∀ q, F162 q → F140 q ∨ w144.heap.size ≤ q := fun q hq => by rcases hfr164 q hq with h | h; exact rbH8 q h; exact .inr (by omega)
   have dis179 : ∀ q, F162 q → ¬ X8 q := fun q h1 h2 => by rcases hfr164 q h1 with h | h; exact hpr8.dHX q h h2; (have h4 := ltX8 q h2; omega)
   have dis180 : ∀ q, F162 q → ¬ Y8 q := fun q h1 h2 => by rcases hfr164 q h1 with h | h; exact hpr8.dHY q h h2; (have h4 := ltY8 q h2; omega)
   have dis181 : ∀ q, F162 q → ¬ Z8 q := fun q h1 h2 => by rcases hfr164 q h1 with h | h; exact hpr8.dHZ q h h2; (have h4 := ltZ8 q h2; omega)
   have own183 : ∀ q, F165 q → w.heap.size ≤ q ∧ q ≠ b138 := fun q hq => by rcases hfr167 q hq with h | h; (have h1 := owF8 q h; have h2 := ltF8 q h; omega); omega
   have lt182 := VotT.lt ho166
   have rel184 : ∀ q, F165 q → B9 q ∨ w138.heap.size ≤ q := fun q hq => by rcases hfr167 q hq with h | h; exact rlF80 q h; exact .inr (by omega)
   have rel185 : ∀ q, F165 q → F140 q ∨ w144.heap.size ≤ q := fun q hq => by rcases hfr167 q hq with h | h; exact rbF8 q h; exact .inr (by omega)
   have dis186 : ∀ q, F165 q → ¬ X8 q := fun q h1 h2 => by rcases hfr167 q h1 with h | h; exact hpr8.dFX q h h2; (have h4 := ltX8 q h2; omega)
   have dis187 : ∀ q, F165 q → ¬ Y8 q := fun q h1 h2 => by rcases hfr167 q h1 with h | h; exact hpr8.dFY q h h2; (have h4 := ltY8 q h2; omega)
   have dis188 : ∀ q, F165 q → ¬ Z8 q := fun q h1 h2 => by rcases hfr167 q h1 with h | h; exact hpr8.dFZ q h h2; (have h4 := ltZ8 q h2; omega)
   have own190 : ∀ q, F168 q → w.heap.size ≤ q ∧ q ≠ b138 := fun q hq => by rcases hfr170 q hq with h | h; (have h1 := owG8 q h; have h2 := ltG8 q h; omega); omega
   have lt189 := Led.lt ho169
   have rel191 : ∀ q, F168 q → B9 q ∨ w138.heap.size ≤ q := fun q hq => by rcases hfr170 q hq with h | h; exact rlG80 q h; exact .inr (by omega)
   have rel192 : ∀ q, F168 q → F140 q ∨ w144.heap.size ≤ q := fun q hq => by rcases hfr170 q hq with h | h; exact rbG8 q h; exact .inr (by omega)
   have dis193 : ∀ q, F168 q → ¬ X8 q := fun q h1 h2 => by rcases hfr170 q h1 with h | h; exact hpr8.dGX q h h2; (have h4 := ltX8 q h2; omega)
   have dis194 : ∀ q, F168 q → ¬ Y8 q := fun q h1 h2 => by rcases hfr170 q h1 with h | h; exact hpr8.dGY q h h2; (have h4 := ltY8 q h2; omega)
   have dis195 : ∀ q, F168 q → ¬ Z8 q := fun q h1 h2 => by rcases hfr170 q h1 with h | h; exact hpr8.dGZ q h h2; (have h4 := ltZ8 q h2; omega)
   replace ho163 : Rfr F162 w160 r8 g8 actTs (rwSub actTs (sbQ fs i) ((1 + i : Nat) : Int) (Int.tmod (i : Int) 3) 0 z0 0).rs := ho163
   replace ho166 : VotT F165 w160 v8 ((rwSub actTs (sbQ fs i) ((1 + i : Nat) : Int) (Int.tmod (i : Int) 3) 0 z0 0).s) := ho166
   replace ho169 : Led F168 w160 l8 (rwSub actTs (sbQ fs i) ((1 + i : Nat) : Int) (Int.tmod (i : Int) 3) 0 z0 0).xs (rwSub actTs (sbQ fs i) ((1 + i : Nat) : Int) (Int.tmod (i : Int) 3) 0 z0 0).cs := ho169
   refine Oe <| V_draws (acts [17]) (fun q => q ≠ b138) [[0, 1, 2, 3, 4, 5, 6, 7, 8, 9, 10, 11, 12, 13, 14, 15, 16, 17]] (by kernel_rfl) (by repeat first | exact (by first | exact (by first | exact sure_body (by rintro _ _ ⟨_, _, h, _⟩; exact ⟨_, h⟩) | exact sure_body (by rintro _ _ ⟨_, _, h, _⟩; exact ⟨_, h⟩) | exact sure_body (by rintro _ _ ⟨h, _⟩; exact ⟨_, h⟩)) | exact sure_body (by rintro _ _ ⟨_, _, _, h, _⟩; exact ⟨_, h⟩)) | refine sure_then ?_ | refine sure_block ?_ | refine sure_join ?_) (by kernel_rfl) ?_
   intro w197 hk196 he198 L hL199
   have hsz200 := Keep.size hk196
   replace hb8 := hb8.k0 hk196
   replace hk146 := hk146.tn hk196
   replace hx8 := DLd.keep hx8 hk196 nk
   replace hy8 := DVt.keep hy8 hk196 nk
   replace hz8 := DRf.keep hz8 hk196 nk
   replace ho163 := ho163.keep hk196 nk
   replace ho166 := ho166.keep hk196 nk
   replace ho169 := ho169.keep hk196 nk
   have qhb8 := hb8
   have K201 : Keep (fun q => q ≠ b138) w197 w197 := Keep.refl _ _
   obtain rfl := List.mem_singleton.1 hL199
   refine Gn [3, 4, 5, 6, 7, 8, 9, 10, 11, 12, 13, 14, 15, 16, 17] [1, 15, 16, 90, 91, 115] <| Mc 5 (pt z8) qhb8 (by show ¬ (b138 ≠ b138); omega) rfl <| Gn [7, 8, 9, 10, 11, 12, 13, 14, 15, 16, 17] [1, 15, 16, 90, 91, 116, 119] <| Mc 3 (pt x8) qhb8 (by show ¬ (b138 ≠ b138); omega) rfl <| Gn [11, 12, 13, 14, 15, 16, 17] [1, 15, 16, 90, 91, 116, 120, 123] <| Mc 4 (pt y8) qhb8 (by show ¬ (b138 ≠ b138); omega) rfl ?_
   have hw202 : i64.wrap (1 + (i : Int)) = ((1 + i : Nat) : Int) := wrp
   refine Gn [14, 15, 16, 17] [1, 15, 16, 90, 91, 116, 120, 124, 126] <| Gq_ (u := nt (i64.wrap (1 + (i : Int)))) (v := nt ((1 + i : Nat) : Int)) 126 (by rw [hw202]) <| Gn [17] [1, 15, 16, 90, 91, 116, 120, 124, 126, 128, 129] <| GI_final 17 (by kernel_rfl) (by kernel_rfl) <| Kg (rsub12_spec Z8 z8 actTs (sbQ fs i).rs Y8 y8 (sbQ fs i).s X8 x8 (sbQ fs i).xs (sbQ fs i).cs ((1 + i : Nat) : Int) (Int.tmod (i : Int) 3) z0 0 0 _ hz8 hy8 hx8 (fun q h1 h2 => hpr8.dYZ q h2 h1) (fun q h1 h2 => hpr8.dXZ q h2 h1) (fun q h1 h2 => hpr8.dXY q h2 h1)) ?_
   rintro _ w205 ⟨rfl, ⟨F207, F210, F213, ho208, ho211, ho214, hfr209, hfr212, hfr215, hdis216, hdis217, hdis218⟩, hk206⟩
   refine ⟨_, rfl, ?_⟩
   have hsz219 := Keep.size hk206
   replace hb8 := hb8.keep hk206 (fun hs => by rcases hs with hs | hs | hs; (have u0 := owZ8 _ hs; have u1 := ltZ8 _ hs; omega); (have u0 := owY8 _ hs; have u1 := ltY8 _ hs; omega); (have u0 := owX8 _ hs; have u1 := ltX8 _ hs; omega))
   replace hk146 := Keep.fresh hk146 hk206 (fun i hi hs => by rcases hs with hs | hs | hs; (rcases rlZ80 i hs with h | h; exact h; (exfalso; omega)); (rcases rlY80 i hs with h | h; exact h; (exfalso; omega)); (rcases rlX80 i hs with h | h; exact h; (exfalso; omega)))
   replace ho163 := ho163.keep hk206 (fun q hq hs => by rcases hs with hs | hs | hs; exact dis181 q hq hs; exact dis180 q hq hs; exact dis179 q hq hs)
   replace ho166 := ho166.keep hk206 (fun q hq hs => by rcases hs with hs | hs | hs; exact dis188 q hq hs; exact dis187 q hq hs; exact dis186 q hq hs)
   replace ho169 := ho169.keep hk206 (fun q hq hs => by rcases hs with hs | hs | hs; exact dis195 q hq hs; exact dis194 q hq hs; exact dis193 q hq hs)
   have own221 : ∀ q, F207 q → w.heap.size ≤ q ∧ q ≠ b138 := fun q hq => by rcases hfr209 q hq with h | h; (have h1 := owZ8 q h; have h2 := ltZ8 q h; omega); omega
   have lt220 := DRf.lt ho208
   have rel222 : ∀ q, F207 q → B9 q ∨ w138.heap.size ≤ q := fun q hq => by rcases hfr209 q hq with h | h; exact rlZ80 q h; exact .inr (by omega)
   have rel223 : ∀ q, F207 q → F140 q ∨ w144.heap.size ≤ q := fun q hq => by rcases hfr209 q hq with h | h; exact rbZ8 q h; exact .inr (by omega)
   have dis224 : ∀ q, F207 q → ¬ F162 q := fun q h1 h2 => by rcases hfr209 q h1 with h | h; exact dis181 q h2 h; (have h4 := lt175 q h2; omega)
   have dis225 : ∀ q, F207 q → ¬ F165 q := fun q h1 h2 => by rcases hfr209 q h1 with h | h; exact dis188 q h2 h; (have h4 := lt182 q h2; omega)
   have dis226 : ∀ q, F207 q → ¬ F168 q := fun q h1 h2 => by rcases hfr209 q h1 with h | h; exact dis195 q h2 h; (have h4 := lt189 q h2; omega)
   have own228 : ∀ q, F210 q → w.heap.size ≤ q ∧ q ≠ b138 := fun q hq => by rcases hfr212 q hq with h | h; (have h1 := owY8 q h; have h2 := ltY8 q h; omega); omega
   have lt227 := DVt.lt ho211
   have rel229 : ∀ q, F210 q → B9 q ∨ w138.heap.size ≤ q := fun q hq => by rcases hfr212 q hq with h | h; exact rlY80 q h; exact .inr (by omega)
   have rel230 : ∀ q, F210 q → F140 q ∨ w144.heap.size ≤ q := fun q hq => by rcases hfr212 q hq with h | h; exact rbY8 q h; exact .inr (by omega)
   have dis231 : ∀ q, F210 q → ¬ F162 q := fun q h1 h2 => by rcases hfr212 q h1 with h | h; exact dis180 q h2 h; (have h4 := lt175 q h2; omega)
   have dis232 : ∀ q, F210 q → ¬ F165 q := fun q h1 h2 => by rcases hfr212 q h1 with h | h; exact dis187 q h2 h; (have h4 := lt182 q h2; omega)
   have dis233 : ∀ q, F210 q → ¬ F168 q := fun q h1 h2 => by rcases hfr212 q h1 with h | h; exact dis194 q h2 h; (have h4 := lt189 q h2; omega)
   have own235 : ∀ q, F213 q → w.heap.size ≤ q ∧ q ≠ b138 := fun q hq => by rcases hfr215 q hq with h | h; (have h1 := owX8 q h; have h2 := ltX8 q h; omega); omega
   have lt234 := DLd.lt ho214
   have rel236 : ∀ q, F213 q → B9 q ∨ w138.heap.size ≤ q := fun q hq => by rcases hfr215 q hq with h | h; exact rlX80 q h; exact .inr (by omega)
   have rel237 : ∀ q, F213 q → F140 q ∨ w144.heap.size ≤ q := fun q hq => by rcases hfr215 q hq with h | h; exact rbX8 q h; exact .inr (by omega)
   have dis238 : ∀ q, F213 q → ¬ F162 q := fun q h1 h2 => by rcases hfr215 q h1 with h | h; exact dis179 q h2 h; (have h4 := lt175 q h2; omega)
   have dis239 : ∀ q, F213 q → ¬ F165 q := fun q h1 h2 => by rcases hfr215 q h1 with h | h; exact dis186 q h2 h; (have h4 := lt182 q h2; omega)
   have dis240 : ∀ q, F213 q → ¬ F168 q := fun q h1 h2 => by rcases hfr215 q h1 with h | h; exact dis193 q h2 h; (have h4 := lt189 q h2; omega)
   replace ho214 : DLd F213 w205 x8 (rwSub actTs (sbQ fs i) ((1 + i : Nat) : Int) (Int.tmod (i : Int) 3) 0 z0 0).xs (rwSub actTs (sbQ fs i) ((1 + i : Nat) : Int) (Int.tmod (i : Int) 3) 0 z0 0).cs := ho214
   replace ho211 : DVt F210 w205 y8 ((rwSub actTs (sbQ fs i) ((1 + i : Nat) : Int) (Int.tmod (i : Int) 3) 0 z0 0).s) := ho211
   replace ho208 : DRf F207 w205 z8 actTs (rwSub actTs (sbQ fs i) ((1 + i : Nat) : Int) (Int.tmod (i : Int) 3) 0 z0 0).rs := ho208
   refine OI_end rfl <| X_block <| X_then <| V_region ?_
   have hw241 : i64.wrap ((i : Int) + 1) = ((i + 1 : Nat) : Int) := wrp
   refine On 2 [1, 15, 90, 91, 94] <| Oq (u := nt (i64.wrap ((i : Int) + 1))) (v := nt ((i + 1 : Nat) : Int)) 94 (by rw [hw241]) <| Os 3 [(1, nt refs),(15, pt b138),(16, nt ((i + 1 : Nat) : Int)),(90, nt (i : Int)),(91, .bool (decide ((i : Int) < 5)))] <| OI_end rfl ?_
   obtain ⟨B242, ho243, hfr244⟩ := PrX.pack (B := F140) (N := w144.heap.size) (ts := actTs) (q := (sbQ fs (i + 1))) hb8 ho163 ho166 ho169 ho214 ho211 ho208 hdis171 hdis172 (fun q h1 h2 => dis238 q h2 h1) (fun q h1 h2 => dis231 q h2 h1) (fun q h1 h2 => dis224 q h2 h1) hdis173 (fun q h1 h2 => dis239 q h2 h1) (fun q h1 h2 => dis232 q h2 h1) (fun q h1 h2 => dis225 q h2 h1) (fun q h1 h2 => dis240 q h2 h1) (fun q h1 h2 => dis233 q h2 h1) (fun q h1 h2 => dis226 q h2 h1) (fun q h1 h2 => hdis218 q h2 h1) (fun q h1 h2 => hdis217 q h2 h1) (fun q h1 h2 => hdis216 q h2 h1) (fun q h => by have h1 := own176 q h; omega) (fun q h => by have h1 := own183 q h; omega) (fun q h => by have h1 := own190 q h; omega) (fun q h => by have h1 := own235 q h; omega) (fun q h => by have h1 := own228 q h; omega) (fun q h => by have h1 := own221 q h; omega) hBb8 rel178 rel185 rel192 rel237 rel230 rel223
   have own246 : ∀ q, B242 q → w.heap.size ≤ q := fun q hq => by rcases hfr244 q hq with h | h; (have h1 := own142 q h; have h2 := lt148 q h; omega); omega
   have lt245 := Pr.lt ho243
   have rel247 : ∀ q, B242 q → B9 q ∨ w138.heap.size ≤ q := fun q hq => by rcases hfr244 q hq with h | h; exact rel143 q h; exact .inr (by omega)
   exact V_again (k145 - 1) (by omega) [(1, nt refs),(15, pt b138),(16, nt ((i + 1 : Nat) : Int))] rfl ⟨i + 1, B242, by omega, by omega, ho243, (fun q hq => by have h1 := own246 q hq; have h2 := lt245 q hq; omega), rel247, hk146, rfl⟩
  refine V_exit <| X_exit_then <| X_exit_then <| X_exit_here <| X_then <| Vs [(4, pt b138)] <| V_ret ?_
  obtain ⟨B248, ho249, hfr250⟩ := PrX.pack (B := F140) (N := w144.heap.size) (ts := actTs) (q := (sbQ fs i)) hb8 hr8 hv8 hl8 hx8 hy8 hz8 hpr8.dHF hpr8.dHG hpr8.dHX hpr8.dHY hpr8.dHZ hpr8.dFG hpr8.dFX hpr8.dFY hpr8.dFZ hpr8.dGX hpr8.dGY hpr8.dGZ hpr8.dXY hpr8.dXZ hpr8.dYZ (fun q h => by have h1 := owH8 q h; omega) (fun q h => by have h1 := owF8 q h; omega) (fun q h => by have h1 := owG8 q h; omega) (fun q h => by have h1 := owX8 q h; omega) (fun q h => by have h1 := owY8 q h; omega) (fun q h => by have h1 := owZ8 q h; omega) hBb8 rbH8 rbF8 rbG8 rbX8 rbY8 rbZ8
  have own252 : ∀ q, B248 q → w.heap.size ≤ q := fun q hq => by rcases hfr250 q hq with h | h; (have h1 := own142 q h; have h2 := lt148 q h; omega); omega
  have lt251 := Pr.lt ho249
  have rel253 : ∀ q, B248 q → B9 q ∨ w138.heap.size ≤ q := fun q hq => by rcases hfr250 q hq with h | h; exact rel143 q h; exact .inr (by omega)
  have hie : i = nRef refs := by omega
  rw [hie] at ho249
  exact X_return _ rfl ⟨b138, B248, rfl, ho249, hK0, fun q hq => by have h1 := own252 q hq; omega⟩
 refine Df 89 hg149 <| Oen [1, 15, 16, 90, 91, 92] <| Vf <| V_exit <| X_exit_then <| X_exit_then <| X_exit_here <| X_then <| Vs [(4, pt b138)] <| V_ret ?_
 obtain ⟨B254, ho255, hfr256⟩ := PrX.pack (B := F140) (N := w144.heap.size) (ts := actTs) (q := (sbQ fs i)) hb8 hr8 hv8 hl8 hx8 hy8 hz8 hpr8.dHF hpr8.dHG hpr8.dHX hpr8.dHY hpr8.dHZ hpr8.dFG hpr8.dFX hpr8.dFY hpr8.dFZ hpr8.dGX hpr8.dGY hpr8.dGZ hpr8.dXY hpr8.dXZ hpr8.dYZ (fun q h => by have h1 := owH8 q h; omega) (fun q h => by have h1 := owF8 q h; omega) (fun q h => by have h1 := owG8 q h; omega) (fun q h => by have h1 := owX8 q h; omega) (fun q h => by have h1 := owY8 q h; omega) (fun q h => by have h1 := owZ8 q h; omega) hBb8 rbH8 rbF8 rbG8 rbX8 rbY8 rbZ8
 have own258 : ∀ q, B254 q → w.heap.size ≤ q := fun q hq => by rcases hfr256 q hq with h | h; (have h1 := own142 q h; have h2 := lt148 q h; omega); omega
 have lt257 := Pr.lt ho255
 have rel259 : ∀ q, B254 q → B9 q ∨ w138.heap.size ≤ q := fun q hq => by rcases hfr256 q hq with h | h; exact rel143 q h; exact .inr (by omega)
 have hie : i = nRef refs := by omega
 rw [hie] at ho255
 exact X_return _ rfl ⟨b138, B254, rfl, ho255, hK0, fun q hq => by have h1 := own258 q hq; omega⟩
end Go.Al
namespace Go.Al
open Go Go.RowKit Go.Proofs
set_option maxRecDepth 20000 in
set_option maxHeartbeats 4000000 in
theorem alike_ac (B : Nat → Prop) (b : Nat) (q : RW) (w : World) (h : Pr B w b actTs q) : Calls Tryz.prog 16 #[pt b] w (rk_ w (.bool true)) := by
 have ltB := Pr.lt h
 have hBb := Pr.at_ h
 have hblt := ltB _ hBb
 have hoB : ∀ q, B q → 0 ≤ q := fun q _ => Nat.zero_le q
 have hK0 := Keep.refl none_ w
 refine eV ?_
 obtain ⟨hBlt, hBb, H, F, G, X, Y, Z, r, g, v, l, x, y, z, hpr⟩ := h
 have hb := hpr.blk
 have hblt := hb.lt
 have hbow := hoB _ hBb
 have hr := hpr.hr
 have owH : ∀ q, H q → (0 ≤ q) ∧ q ≠ b := fun q hq => by have h1 := hoB q (hpr.inH q hq).1; have h2 := (hpr.inH q hq).2; omega
 have ltH := Rfr.lt hr
 have hrlt := ltH _ (Rfr.at_ hr)
 have hrow := owH _ (Rfr.at_ hr)
 have rbH : ∀ q, H q → B q ∨ w.heap.size ≤ q := fun q hq => .inl (hpr.inH q hq).1
 have hv := hpr.hv
 have owF : ∀ q, F q → (0 ≤ q) ∧ q ≠ b := fun q hq => by have h1 := hoB q (hpr.inF q hq).1; have h2 := (hpr.inF q hq).2; omega
 have ltF := VotT.lt hv
 have hvlt := ltF _ (VotT.at_ hv)
 have hvow := owF _ (VotT.at_ hv)
 have rbF : ∀ q, F q → B q ∨ w.heap.size ≤ q := fun q hq => .inl (hpr.inF q hq).1
 have hl := hpr.hl
 have owG : ∀ q, G q → (0 ≤ q) ∧ q ≠ b := fun q hq => by have h1 := hoB q (hpr.inG q hq).1; have h2 := (hpr.inG q hq).2; omega
 have ltG := Led.lt hl
 have hllt := ltG _ (Led.at_ hl)
 have hlow := owG _ (Led.at_ hl)
 have rbG : ∀ q, G q → B q ∨ w.heap.size ≤ q := fun q hq => .inl (hpr.inG q hq).1
 have hx := hpr.hx
 have owX : ∀ q, X q → (0 ≤ q) ∧ q ≠ b := fun q hq => by have h1 := hoB q (hpr.inX q hq).1; have h2 := (hpr.inX q hq).2; omega
 have ltX := DLd.lt hx
 have hxlt := ltX _ (DLd.at_ hx)
 have hxow := owX _ (DLd.at_ hx)
 have rbX : ∀ q, X q → B q ∨ w.heap.size ≤ q := fun q hq => .inl (hpr.inX q hq).1
 have hy := hpr.hy
 have owY : ∀ q, Y q → (0 ≤ q) ∧ q ≠ b := fun q hq => by have h1 := hoB q (hpr.inY q hq).1; have h2 := (hpr.inY q hq).2; omega
 have ltY := DVt.lt hy
 have hylt := ltY _ (DVt.at_ hy)
 have hyow := owY _ (DVt.at_ hy)
 have rbY : ∀ q, Y q → B q ∨ w.heap.size ≤ q := fun q hq => .inl (hpr.inY q hq).1
 have hz := hpr.hz
 have owZ : ∀ q, Z q → (0 ≤ q) ∧ q ≠ b := fun q hq => by have h1 := hoB q (hpr.inZ q hq).1; have h2 := (hpr.inZ q hq).2; omega
 have ltZ := DRf.lt hz
 have hzlt := ltZ _ (DRf.at_ hz)
 have hzow := owZ _ (DRf.at_ hz)
 have rbZ : ∀ q, Z q → B q ∨ w.heap.size ≤ q := fun q hq => .inl (hpr.inZ q hq).1
 have hrl9 := (DRf.rinv hz).inn.rl
 refine Vr <| On 1 [0] <| Oe <| V_seq <| Vn [0, 3] <| V_block <| Vp [(0, pt b),(3, nt 0)] <| V_loop (fun k wI e => ∃ j : Nat, (k + j = 10) ∧ Keep none_ w wI ∧ e = [(0, pt b),(3, nt (j : Int))]) 10 ⟨0, by omega, Keep.refl _ _, rfl⟩ ?_
 rintro k2 w1 _ ⟨j, hkj, hk3, rfl⟩
 have hsz4 := Keep.size hk3
 replace hb := hb.k0 hk3
 replace hK0 := hK0.tn hk3
 replace hr := hr.keep hk3 nk
 replace hl := hl.keep hk3 nk
 replace hx := DLd.keep hx hk3 nk
 replace hz := DRf.keep hz hk3 nk
 have hzhk3 := Keep.size hk3
 refine V_seq <| Vn [0, 3, 8] <| Vi ((j : Int) < 10) (fun hc5 => ?_) (fun hc5 => ?_)
 ·
  refine Vsk <| V_seq <| V_block <| V_seq <| V_draws (acts [5, 11, 19, 25]) none_ [[0, 1, 2, 3, 4, 5, 6, 7, 8, 9, 10, 11, 12, 13, 14, 15, 16, 17, 18, 19, 20, 21, 22, 23, 24, 25, 26, 27]] (by kernel_rfl) (by repeat first | exact (by first | exact (by first | exact sure_body (by rintro _ _ ⟨_, _, h, _⟩; exact ⟨_, h⟩) | exact sure_body (by rintro _ _ ⟨_, _, h, _⟩; exact ⟨_, h⟩) | exact sure_body (by rintro _ _ ⟨h, _⟩; exact ⟨_, h⟩))) | refine sure_then ?_ | refine sure_block ?_ | refine sure_join ?_) (by kernel_rfl) ?_
  intro w7 hk6 he8 L hL9
  have hsz10 := Keep.size hk6
  replace hb := hb.k0 hk6
  replace hl := hl.keep hk6 nk
  replace hx := DLd.keep hx hk6 nk
  replace hk3 := hk3.tn hk6
  have qhb := hb
  have K11 : Keep none_ w7 w7 := Keep.refl _ _
  obtain rfl := List.mem_singleton.1 hL9
  refine Gn [3, 4, 5, 6, 7, 8, 9, 10, 11, 12, 13, 14, 15, 16, 17, 18, 19, 20, 21, 22, 23, 24, 25, 26, 27] [0, 3, 13] <| Mr 0 (pt l) qhb <| Gn [5, 6, 7, 8, 9, 10, 11, 12, 13, 14, 15, 16, 17, 18, 19, 20, 21, 22, 23, 24, 25, 26, 27] [0, 3, 14, 15] <| Hg (free_spec G l q.xs q.cs (j : Int) _ hl) ?_
  rintro _ w12 ⟨rfl, hk13⟩
  have K14 := K11.tr (Keep.ofNone hk13)
  refine ⟨_, rfl, K14, ?_⟩
  have hzK14 := Keep.size K14
  have hsz15 := Keep.size hk13
  replace hl := hl.keep hk13 nk
  replace hx := DLd.keep hx hk13 nk
  replace hk3 := hk3.tn hk13
  refine Gn [9, 10, 11, 12, 13, 14, 15, 16, 17, 18, 19, 20, 21, 22, 23, 24, 25, 26, 27] [0, 3, 16, 19] <| Mr 3 (pt x) qhb <| Gn [11, 12, 13, 14, 15, 16, 17, 18, 19, 20, 21, 22, 23, 24, 25, 26, 27] [0, 3, 16, 20, 21] <| Hg (free6_spec X x q.xs q.cs (j : Int) _ hx) ?_
  rintro _ w16 ⟨rfl, hk17⟩
  have K18 := K14.tr (Keep.ofNone hk17)
  refine ⟨_, rfl, K18, ?_⟩
  have hzK18 := Keep.size K18
  have hsz19 := Keep.size hk17
  replace hl := hl.keep hk17 nk
  replace hx := DLd.keep hx hk17 nk
  replace hk3 := hk3.tn hk17
  refine Gn [14, 15, 16, 17, 18, 19, 20, 21, 22, 23, 24, 25, 26, 27] [0, 3, 24] <| Gq_ (u := .bool (!(decide ((acct q.xs (j : Int)).free = (acct q.xs (j : Int)).free)))) (v := .bool false) 24 (by rw [decide_eq_true (rfl : (acct q.xs (j : Int)).free = (acct q.xs (j : Int)).free)]; rfl) <| Gn [17, 18, 19, 20, 21, 22, 23, 24, 25, 26, 27] [0, 3, 24, 25, 26, 27] <| Mr 0 (pt l) qhb <| Gn [19, 20, 21, 22, 23, 24, 25, 26, 27] [0, 3, 24, 25, 26, 27, 28, 29] <| Hg (held_spec G l q.xs q.cs (j : Int) _ hl) ?_
  rintro _ w21 ⟨rfl, hk22⟩
  have K23 := K18.tr (Keep.ofNone hk22)
  refine ⟨_, rfl, K23, ?_⟩
  have hzK23 := Keep.size K23
  have hsz24 := Keep.size hk22
  replace hx := DLd.keep hx hk22 nk
  replace hk3 := hk3.tn hk22
  refine Gn [23, 24, 25, 26, 27] [0, 3, 24, 25, 26, 27, 28, 29, 30, 31, 32, 33] <| Mr 3 (pt x) qhb <| Gn [25, 26, 27] [0, 3, 24, 25, 26, 27, 28, 29, 30, 31, 32, 33, 34, 35] <| Jk (held6_spec X x q.xs q.cs (j : Int) _ hx) fun w25 hk26 _ => ?_
  replace hk3 := hk3.tn hk26
  refine Gs [] [(0, pt b),(3, nt (j : Int)),(25, pt b),(26, pt b),(27, pt b),(28, pt l),(29, nt (j : Int)),(30, nt ((acct q.xs (j : Int)).held)),(31, pt b),(32, pt b),(33, po_ b 3),(34, pt x),(35, nt (j : Int)),(36, nt ((acct q.xs (j : Int)).held)),(37, .bool (!(decide ((acct q.xs (j : Int)).held = (acct q.xs (j : Int)).held)))),(38, .bool (!(decide ((acct q.xs (j : Int)).held = (acct q.xs (j : Int)).held))))] <| GI_end <| X_then <| V_eq [(0, pt b),(3, nt (j : Int)),(25, pt b),(26, pt b),(27, pt b),(28, pt l),(29, nt (j : Int)),(30, nt ((acct q.xs (j : Int)).held)),(31, pt b),(32, pt b),(33, po_ b 3),(34, pt x),(35, nt (j : Int)),(36, nt ((acct q.xs (j : Int)).held)),(37, .bool (!(decide ((acct q.xs (j : Int)).held = (acct q.xs (j : Int)).held)))),(38, .bool false)] (by rw [decide_eq_true (rfl : (acct q.xs (j : Int)).held = (acct q.xs (j : Int)).held)]; rfl) <| Vf <| V_skip <| X_block <| X_then <| V_region ?_
  have hw29 : i64.wrap ((j : Int) + 1) = ((j + 1 : Nat) : Int) := wrp
  refine On 2 [0, 10, 25, 26, 27, 28, 29, 30, 31, 32, 33, 34, 35, 36, 37] <| Oq (u := nt (i64.wrap ((j : Int) + 1))) (v := nt ((j + 1 : Nat) : Int)) 10 (by rw [hw29]) <| Os 3 [(0, pt b),(3, nt ((j + 1 : Nat) : Int)),(25, pt b),(26, pt b),(27, pt b),(28, pt l),(29, nt (j : Int)),(30, nt ((acct q.xs (j : Int)).held)),(31, pt b),(32, pt b),(33, po_ b 3),(34, pt x),(35, nt (j : Int)),(36, nt ((acct q.xs (j : Int)).held)),(37, .bool (!(decide ((acct q.xs (j : Int)).held = (acct q.xs (j : Int)).held))))] <| OI_end rfl ?_
  exact V_again (k2 - 1) (by omega) [(0, pt b),(3, nt ((j + 1 : Nat) : Int))] rfl ⟨j + 1, by omega, hk3, rfl⟩
 refine V_exit <| X_exit_then <| X_exit_then <| X_exit_here <| X_then <| V_seq <| Vn [0, 4] <| V_block <| Vp [(0, pt b),(4, nt 0)] <| V_loop (fun k wI e => ∃ i : Nat, (k + i = q.rs.length) ∧ Keep none_ w1 wI ∧ e = [(0, pt b),(4, nt (i : Int))]) q.rs.length ⟨0, by omega, Keep.refl _ _, rfl⟩ ?_
 rintro k31 w30 _ ⟨i, hki, hk32, rfl⟩
 have hsz33 := Keep.size hk32
 replace hb := hb.k0 hk32
 replace hK0 := hK0.tn hk32
 replace hr := hr.keep hk32 nk
 replace hz := DRf.keep hz hk32 nk
 have hzhk32 := Keep.size hk32
 refine V_seq <| Vr <| On 4 [0, 4, 39, 42] <| Lr 5 (pt z) hb <| On 7 [0, 4, 39, 45] ?_
 obtain ⟨hrv34, hHz34, hHlt34, A34, cap34, B34, capb34, hdz34⟩ := hz
 have hz34 := hdz34.blk
 have hA34 := hdz34.tl
 have hB34 := hdz34.rl
 have hz34lt := ltZ _ hHz34
 have hrl34 := hrv34.inn.rl
 have htl34 := hrv34.inn.tl
 have hz34ow := owZ _ hHz34
 have owA34 : ∀ q, inA A34 q → 0 ≤ q ∧ q ≠ z ∧ q ≠ b := fun q hq => by obtain ⟨h1, h4⟩ := hdz34.za q hq; have h2 := ltZ q h1; have h3 := owZ q h1; omega
 have ltA34 := fun q (hq : inA A34 q) => ltZ q (hdz34.za q hq).1
 have owB34 : ∀ q, inA B34 q → 0 ≤ q ∧ q ≠ z ∧ q ≠ b := fun q hq => by obtain ⟨h1, h4⟩ := hdz34.zb q hq; have h2 := ltZ q h1; have h3 := owZ q h1; omega
 have ltB34 := fun q (hq : inA B34 q) => ltZ q (hdz34.zb q hq).1
 have own35 := fun q (hq : H q) => And.intro (owH q hq) ((show q ≠ z from fun e => (fun q h1 h2 => hpr.dHZ q h2 h1) z hHz34 (by rw [← e]; exact hq)))
 have own36 := fun q (hq : F q) => And.intro (owF q hq) ((show q ≠ z from fun e => (fun q h1 h2 => hpr.dFZ q h2 h1) z hHz34 (by rw [← e]; exact hq)))
 have own37 := fun q (hq : G q) => And.intro (owG q hq) ((show q ≠ z from fun e => (fun q h1 h2 => hpr.dGZ q h2 h1) z hHz34 (by rw [← e]; exact hq)))
 have own38 := fun q (hq : X q) => And.intro (owX q hq) ((show q ≠ z from fun e => (fun q h1 h2 => hpr.dXZ q h2 h1) z hHz34 (by rw [← e]; exact hq)))
 have own39 := fun q (hq : Y q) => And.intro (owY q hq) ((show q ≠ z from fun e => (fun q h1 h2 => hpr.dYZ q h2 h1) z hHz34 (by rw [← e]; exact hq)))
 refine Lr 1 (.slice B34 q.rs.length capb34) hz34 <| Oen [0, 4, 48] <| Vi ((i : Int) < (q.rs.length : Int)) (fun hc40 => ?_) (fun hc40 => ?_)
 ·
  obtain ⟨xr, hxr⟩ : ∃ x, q.rs[i]? = some x := ⟨_, List.getElem?_eq_getElem (by omega)⟩
  refine Vsk <| V_seq <| V_block <| Vr <| On 3 [0, 4, 54] <| Lr 2 (pt r) hb <| Os 5 [(0, pt b),(4, nt (i : Int)),(55, pt r),(56, nt (i : Int))] <| Ok (kL 11 #[(.tmp 55),(.tmp 56)] #[33, 3]) 11 #[pt r, nt (i : Int)] (some 57) (rget_spec H r g actTs q.rs (i : Int) _ hr) ?_
  rintro _ w43 ⟨rfl, hk44⟩
  refine ⟨_, rfl, ?_⟩
  have hsz45 := Keep.size hk44
  replace hk32 := hk32.tn hk44
  skip
  refine Op_ [(0, pt b),(4, nt (i : Int)),(57, .tuple #[.agg (Rfm.cells (getA q.rs (i : Int))).toArray, .bool ((getR q.rs (i : Int)).isSome)])] <| Oq (u := .tuple #[.agg (Rfm.cells (getA q.rs (i : Int))).toArray, .bool ((getR q.rs (i : Int)).isSome)]) (v := .tuple #[.agg (Rfm.cells xr).toArray, .bool true]) 57 (by rw [(dng_at hxr).2.2, (dng_at hxr).2.1]; rfl) <| On 9 [0, 4, 58, 59] <| Alc_ 44 (.agg (Rfm.cells Rfm.zero).toArray) (Rfm.cells Rfm.zero) ?_
  intro b46 w46 e46 hb46 k46 z46
  have hsz47 := Keep.size k46
  replace hb := hb.k0 (hk44.tr k46)
  replace hz34 := hz34.k0 (hk44.tr k46)
  replace hB34 := hB34.keep0 (hk44.tr k46)
  replace hk32 := hk32.tn k46
  skip
  have hb46lt := hb46.lt
  refine Sg 0 (Rfm.cells xr) hb46 (Rfm.len _) (Rfm.one _) ?_
  intro w48 hb46_51 hk49 hz50
  replace hb46_51 : Blk w48 b46 (Rfm.cells xr) 44 := (Blk.eqL (Rfm.over _ _) hb46_51)
  have hsz52 := Keep.size hk49
  replace hb := hb.k1 hk49
  replace hz34 := hz34.k1 hk49
  replace hB34 := hB34.keep hk49 (fun q hq hs => by have hs : q = b46 := hs; have g0 := owB34 q hq; have g1 := ltB34 q hq; omega)
  replace hk32 := Keep.fr hk32 hk49
  skip
  refine Oen [0, 4, 5, 6] <| V_seq <| V_draws (acts []) none_ [[0, 1, 2, 3, 4, 5, 6, 7, 8, 9, 10, 11, 12, 13, 14, 15]] (by kernel_rfl) (by repeat first | exact (by first | exact (by first | exact sure_body (by rintro _ _ ⟨_, _, h, _⟩; exact ⟨_, h⟩) | exact sure_body (by rintro _ _ ⟨_, _, h, _⟩; exact ⟨_, h⟩) | exact sure_body (by rintro _ _ ⟨h, _⟩; exact ⟨_, h⟩))) | refine sure_then ?_ | refine sure_block ?_ | refine sure_join ?_) (by kernel_rfl) ?_
  intro w54 hk53 he55 L hL56
  have hsz57 := Keep.size hk53
  replace hb := hb.k0 hk53
  replace hz34 := hz34.k0 hk53
  replace hb46_51 := hb46_51.k0 hk53
  replace hB34 := hB34.keep0 hk53
  replace hk32 := hk32.tn hk53
  skip
  have qhb := hb
  have qhz34 := hz34
  have qhb46_51 := hb46_51
  have qhB34 := hB34
  have K58 : Keep none_ w54 w54 := Keep.refl _ _
  obtain rfl := List.mem_singleton.1 hL56
  refine Gn [3, 4, 5, 6, 7, 8, 9, 10, 11, 12, 13, 14, 15] [0, 4, 5, 62] <| Ma 0 (Rfm.cells xr) 45 qhb46_51 id (take_all (Rfm.len _)) (Rfm.len _) <| Gn [7, 8, 9, 10, 11, 12, 13, 14, 15] [0, 4, 62, 63, 64, 65, 66] <| Mr 5 (pt z) qhb <| Gn [10, 11, 12, 13, 14, 15] [0, 4, 62, 63, 64, 65, 66, 67, 68, 69] <| Mr 1 (.slice B34 q.rs.length capb34) qhz34 <| Gn [12, 13, 14, 15] [0, 4, 62, 63, 64, 65, 66, 67, 68, 69, 70, 71] ?_
  obtain ⟨b59, o59, L59, T59, rfl, hat59⟩ := SlT.opn hB34
  have hb59lt := hat59.blk.lt
  have hob60 := owB34 b59 ⟨_, rfl, rfl⟩
  have hob61 := ltB34 b59 ⟨_, rfl, rfl⟩
  have hne62 : ∀ q, inA A34 q → q ≠ b59 := fun q hq hs => hdz34.ab q hq ⟨_, rfl, hs⟩
  have own63 := fun q hq => And.intro (owA34 q hq) (hne62 q hq)
  have hne64 : ∀ q, H q → q ≠ b59 := fun q hq hs => (fun q h1 h2 => (fun q h1 h2 => hpr.dHZ q h2 h1) q (hdz34.zb q h2).1 h1) q hq ⟨_, rfl, hs⟩
  have own65 := fun q hq => And.intro (own35 q hq) (hne64 q hq)
  have hne66 : ∀ q, F q → q ≠ b59 := fun q hq hs => (fun q h1 h2 => (fun q h1 h2 => hpr.dFZ q h2 h1) q (hdz34.zb q h2).1 h1) q hq ⟨_, rfl, hs⟩
  have own67 := fun q hq => And.intro (own36 q hq) (hne66 q hq)
  have hne68 : ∀ q, G q → q ≠ b59 := fun q hq hs => (fun q h1 h2 => (fun q h1 h2 => hpr.dGZ q h2 h1) q (hdz34.zb q h2).1 h1) q hq ⟨_, rfl, hs⟩
  have own69 := fun q hq => And.intro (own37 q hq) (hne68 q hq)
  have hne70 : ∀ q, X q → q ≠ b59 := fun q hq hs => (fun q h1 h2 => (fun q h1 h2 => hpr.dXZ q h2 h1) q (hdz34.zb q h2).1 h1) q hq ⟨_, rfl, hs⟩
  have own71 := fun q hq => And.intro (own38 q hq) (hne70 q hq)
  have hne72 : ∀ q, Y q → q ≠ b59 := fun q hq hs => (fun q h1 h2 => (fun q h1 h2 => hpr.dYZ q h2 h1) q (hdz34.zb q h2).1 h1) q hq ⟨_, rfl, hs⟩
  have own73 := fun q hq => And.intro (own39 q hq) (hne72 q hq)
  obtain ⟨qL59, qT59, qhat59⟩ := SlT.openA qhB34 (by first | omega | (simp; done) | (simp; omega))
  refine Gi (b := b59) (o := o59) (len := q.rs.length) (cap := capb34) (j := i) 44 45 136 .i64 <| Ma (o59 + i * 45) (Rfm.cells xr) 45 qhat59.blk id (At.elem' qhat59 (es_at hxr)) (At.len qhat59 (es_at hxr)) <| GI_pure (some 74) ((Op.binOp BinOp.neq 44 (Operand.tmp 63) (Operand.tmp 73) 44)) (by kernel_rfl) (by kernel_rfl) (pure_neq_same (xs := Rfm.cells xr) (by kernel_rfl) (by kernel_rfl) (by kernel_rfl) (by kernel_rfl)) <| Gn [] [0, 4, 63, 64, 65, 66, 67, 68, 69, 70, 71, 72, 73, 74, 75] <| GI_end <| X_then <| Vf <| V_skip <| X_block <| X_then <| V_region ?_
  have hw74 : i64.wrap ((i : Int) + 1) = ((i + 1 : Nat) : Int) := wrp
  refine On 2 [0, 50, 63, 64, 65, 66, 67, 68, 69, 70, 71, 72, 73, 74] <| Oq (u := nt (i64.wrap ((i : Int) + 1))) (v := nt ((i + 1 : Nat) : Int)) 50 (by rw [hw74]) <| Os 3 [(0, pt b),(4, nt ((i + 1 : Nat) : Int)),(63, .agg (Rfm.cells xr).toArray),(64, pt b),(65, pt b),(66, po_ b 5),(67, pt z),(68, pt z),(69, po_ z 1),(70, sl_ b59 o59 q.rs.length capb34),(71, nt (i : Int)),(72, .pointer (some ⟨b59, o59 + i * 45, none⟩)),(73, .agg (Rfm.cells xr).toArray),(74, .bool false)] <| OI_end rfl ?_
  exact V_again (k31 - 1) (by omega) [(0, pt b),(4, nt ((i + 1 : Nat) : Int))] rfl ⟨i + 1, by omega, hk32, rfl⟩
 exact V_exit <| X_exit_then <| X_exit_then <| X_exit_here <| X_then <| Vn [2] <| Rr (.bool true) ⟨rfl, hK0⟩
end Go.Al
namespace Go.Al
open Go Go.RowKit Go.Proofs
theorem kn1 : doD actTs 1 0 (CA.mk 1 0 7 none 0 []) (acQ []) = ([Evt.mk 5 1 7], 0, acQ []) := by kernel_rfl
theorem kn2 : doD actTs 0 0 (CA.mk 2 1 6 none 0 []) (acQ []) = ([], 10, acQ []) := by kernel_rfl
set_option maxHeartbeats 2000000 in
theorem known_spec (w : World) : Calls Tryz.prog 12 #[] w (rk_ w (.bool true)) := by
 have hK0 := Keep.refl none_ w
 refine eV ?_
 refine Vr <| On 1 [] <| Oer <| Kg (begin0 none 0 [] _ (.inl rfl) (by simp)) ?_
 rintro _ w3 ⟨b5, r6, gg7, v8, l9, H10, F11, G12, xv13, yv14, zv15, rfl, hb16, hR17, hV18, hL19, hk4, hge20, oH21, oF22, oG23, dHF24, dHG25, dFG26⟩
 refine ⟨_, rfl, ?_⟩
 have hsz27 := Keep.size hk4
 replace hK0 := hK0.tn hk4
 have hb5lt := hb16.lt
 have own28 : ∀ q, H10 q → w.heap.size ≤ q ∧ q ≠ b5 := fun q hq => by have h1 := oH21 q hq; omega
 have lt29 := Rfr.lt hR17
 have own30 : ∀ q, F11 q → w.heap.size ≤ q ∧ q ≠ b5 := fun q hq => by have h1 := oF22 q hq; omega
 have lt31 := VotT.lt hV18
 have own32 : ∀ q, G12 q → w.heap.size ≤ q ∧ q ≠ b5 := fun q hq => by have h1 := oG23 q hq; omega
 have lt33 := Led.lt hL19
 replace hR17 : Rfr H10 w3 r6 gg7 actTs (acQ []).rs := hR17
 replace hV18 : VotT F11 w3 v8 ((acQ []).s) := hV18
 replace hL19 : Led G12 w3 l9 (acQ []).xs (acQ []).cs := hL19
 refine On 2 [1] <| Oe <| V_seq <| Vn [1, 8] <| Vf <| Vsk <| V_seq <| V_draws (acts [13]) none_ [[0, 1, 2, 3, 4, 5, 6, 7, 8, 9, 10, 11, 12, 13, 14, 15, 16, 17, 18]] (by kernel_rfl) (by repeat first | exact (by first | exact sure_body (by rintro _ _ ⟨_, _, h, _⟩; exact ⟨_, h⟩) | exact sure_body (by rintro _ _ ⟨_, _, _, _, _, _, _, _, _, _, _, h, _⟩; exact ⟨_, h⟩) | exact sure_body (by rintro _ _ ⟨h, _⟩; exact ⟨_, h⟩)) | refine sure_then ?_ | refine sure_block ?_ | refine sure_join ?_) (by kernel_rfl) ?_
 intro w35 hk34 he36 L hL37
 have hsz38 := Keep.size hk34
 replace hb16 := hb16.k0 hk34
 replace hK0 := hK0.tn hk34
 replace hR17 := hR17.keep hk34 nk
 replace hV18 := hV18.keep hk34 nk
 replace hL19 := hL19.keep hk34 nk
 have qhb16 := hb16
 have K39 : Keep none_ w35 w35 := Keep.refl _ _
 obtain rfl := List.mem_singleton.1 hL37
 refine Gn [3, 4, 5, 6, 7, 8, 9, 10, 11, 12, 13, 14, 15, 16, 17, 18] [1, 12] <| Mr 0 (pt l9) qhb16 <| Gn [7, 8, 9, 10, 11, 12, 13, 14, 15, 16, 17, 18] [1, 13, 16] <| Mr 1 (pt v8) qhb16 <| Gn [11, 12, 13, 14, 15, 16, 17, 18] [1, 13, 17, 20] <| Mr 2 (pt r6) qhb16 <| Gs [13, 14, 15, 16, 17, 18] [(1, pt b5),(13, pt l9),(17, pt v8),(21, pt r6),(22, .agg (CA.cells (CA.mk 1 0 7 none 0 [])).toArray)] <| Gk0 (kL 10 #[(.tmp 13),(.tmp 17),(.tmp 21),(.tmp 22),(.const (nt 1)),(.const (nt 0))] #[31, 32, 33, 26, 3, 3]) 10 #[pt l9, pt v8, pt r6, .agg (CA.cells (CA.mk 1 0 7 none 0 [])).toArray, nt 1, nt 0] (some 23) (do_spec none_ (CA.mk 1 0 7 none 0 []) r6 gg7 actTs v8 l9 1 0 H10 F11 G12 (acQ []) _ (RepIn.none (fun q h => (inA_none h).elim)) hR17 hV18 hL19 dHF24 dHG25 dFG26 (fun q h => h.elim)) ?_
 rintro _ w42 ⟨A44, cap44, rfl, hA44, ow44, ⟨F45, F48, F51, ho46, ho49, ho52, hfr47, hfr50, hfr53, hdis54, hdis55, hdis56, dA57, dA58, dA59⟩, hk43⟩
 refine ⟨_, rfl, ?_⟩
 have hsz60 := Keep.size hk43
 replace hb16 := hb16.keep hk43 (fun hs => by rcases hs with hs | hs | hs; (have u9 : _ = gg7 := hs; have u0 := own28 _ (Rfr.atg hR17); have u1 := lt29 _ (Rfr.atg hR17); omega); (have u0 := own30 _ hs; have u1 := lt31 _ hs; omega); (have u0 := own32 _ hs; have u1 := lt33 _ hs; omega))
 replace hK0 := Keep.fresh hK0 hk43 (by intro i hi hs; first | exact hs | (rcases hs with hs | hs | hs; (have u9 : _ = gg7 := hs; have u0 := own28 _ (Rfr.atg hR17); have u1 := lt29 _ (Rfr.atg hR17); omega); (have u0 := own30 i hs; have u1 := lt31 i hs; omega); (have u0 := own32 i hs; have u1 := lt33 i hs; omega)))
 have own62 : ∀ q, F45 q → w.heap.size ≤ q ∧ q ≠ b5 := fun q hq => by rcases hfr47 q hq with h | h; (have h1 := own28 q h; have h2 := lt29 q h; omega); omega
 have lt61 := Rfr.lt ho46
 have own64 : ∀ q, F48 q → w.heap.size ≤ q ∧ q ≠ b5 := fun q hq => by rcases hfr50 q hq with h | h; (have h1 := own30 q h; have h2 := lt31 q h; omega); omega
 have lt63 := VotT.lt ho49
 have own66 : ∀ q, F51 q → w.heap.size ≤ q ∧ q ≠ b5 := fun q hq => by rcases hfr53 q hq with h | h; (have h1 := own32 q h; have h2 := lt33 q h; omega); omega
 have lt65 := Led.lt ho52
 have ltA44 := SlT.lt hA44
 replace hA44 := SlT.ofE (xs := (doD actTs 1 0 (CA.mk 1 0 7 none 0 []) (acQ [])).1) hA44 (show _ = [Evt.mk 5 1 7] from by rw [kn1])
 replace ho46 : Rfr F45 w42 r6 gg7 actTs ((doD actTs 1 0 (CA.mk 1 0 7 none 0 []) (acQ [])).2.2).rs := ho46
 replace ho49 : VotT F48 w42 v8 (((doD actTs 1 0 (CA.mk 1 0 7 none 0 []) (acQ [])).2.2).s) := ho49
 replace ho52 : Led F51 w42 l9 ((doD actTs 1 0 (CA.mk 1 0 7 none 0 []) (acQ [])).2.2).xs ((doD actTs 1 0 (CA.mk 1 0 7 none 0 []) (acQ [])).2.2).cs := ho52
 rw [kn1] at ho46
 rw [kn1] at ho49
 rw [kn1] at ho52
 replace ho46 : Rfr F45 w42 r6 gg7 actTs (acQ []).rs := ho46
 replace ho49 : VotT F48 w42 v8 ((acQ []).s) := ho49
 replace ho52 : Led F51 w42 l9 (acQ []).xs (acQ []).cs := ho52
 refine Gp_ [(1, pt b5),(23, .tuple #[.slice A44 (((doD actTs 1 0 (CA.mk 1 0 7 none 0 []) (acQ [])).1).length) cap44, nt ((doD actTs 1 0 (CA.mk 1 0 7 none 0 []) (acQ [])).2.1)])] <| Gq_ (u := .tuple #[.slice A44 (((doD actTs 1 0 (CA.mk 1 0 7 none 0 []) (acQ [])).1).length) cap44, nt ((doD actTs 1 0 (CA.mk 1 0 7 none 0 []) (acQ [])).2.1)]) (v := .tuple #[.slice A44 1 cap44, nt 0]) 23 (by rw [show (doD actTs 1 0 (CA.mk 1 0 7 none 0 []) (acQ [])).1 = [Evt.mk 5 1 7] from by rw [kn1]]; rw [kn1] <;> rfl) <| Gn [] [1, 2, 3] <| GI_end <| X_then <| V_seq <| V_draws (acts [13]) none_ [[0, 1, 2, 3, 4, 5, 6, 7, 8, 9, 10, 11, 12, 13, 14, 15, 16, 17, 18]] (by kernel_rfl) (by repeat first | exact (by first | exact sure_body (by rintro _ _ ⟨_, _, h, _⟩; exact ⟨_, h⟩) | exact sure_body (by rintro _ _ ⟨_, _, _, _, _, _, _, _, _, _, _, h, _⟩; exact ⟨_, h⟩) | exact sure_body (by rintro _ _ ⟨h, _⟩; exact ⟨_, h⟩)) | refine sure_then ?_ | refine sure_block ?_ | refine sure_join ?_) (by kernel_rfl) ?_
 intro w68 hk67 he69 L hL70
 have hsz71 := Keep.size hk67
 replace hb16 := hb16.k0 hk67
 replace hA44 := hA44.keep0 hk67
 replace hK0 := hK0.tn hk67
 replace ho46 := ho46.keep hk67 nk
 replace ho49 := ho49.keep hk67 nk
 replace ho52 := ho52.keep hk67 nk
 have qhb16 := hb16
 have K72 : Keep none_ w68 w68 := Keep.refl _ _
 obtain rfl := List.mem_singleton.1 hL70
 refine Gn [3, 4, 5, 6, 7, 8, 9, 10, 11, 12, 13, 14, 15, 16, 17, 18] [1, 2, 3, 29] <| Mr 0 (pt l9) qhb16 <| Gn [7, 8, 9, 10, 11, 12, 13, 14, 15, 16, 17, 18] [1, 2, 3, 30, 33] <| Mr 1 (pt v8) qhb16 <| Gn [11, 12, 13, 14, 15, 16, 17, 18] [2, 3, 30, 34, 37] <| Mr 2 (pt r6) qhb16 <| Gs [13, 14, 15, 16, 17, 18] [(2, .slice A44 1 cap44),(3, nt 0),(30, pt l9),(34, pt v8),(38, pt r6),(39, .agg (CA.cells (CA.mk 2 1 6 none 0 [])).toArray)] <| Gk0 (kL 10 #[(.tmp 30),(.tmp 34),(.tmp 38),(.tmp 39),(.const (nt 0)),(.const (nt 0))] #[31, 32, 33, 26, 3, 3]) 10 #[pt l9, pt v8, pt r6, .agg (CA.cells (CA.mk 2 1 6 none 0 [])).toArray, nt 0, nt 0] (some 40) (do_spec none_ (CA.mk 2 1 6 none 0 []) r6 gg7 actTs v8 l9 0 0 F45 F48 F51 (acQ []) _ (RepIn.none (fun q h => (inA_none h).elim)) ho46 ho49 ho52 hdis54 hdis55 hdis56 (fun q h => h.elim)) ?_
 rintro _ w75 ⟨A77, cap77, rfl, hA77, ow77, ⟨F78, F81, F84, ho79, ho82, ho85, hfr80, hfr83, hfr86, hdis87, hdis88, hdis89, dA90, dA91, dA92⟩, hk76⟩
 refine ⟨_, rfl, ?_⟩
 have hsz93 := Keep.size hk76
 replace hA44 := hA44.keep hk76 (fun q hq hs => by rcases hs with hs | hs | hs; exact dA57 q hq (by rw [show q = gg7 from hs]; exact (Rfr.atg ho46)); exact dA58 q hq hs; exact dA59 q hq hs)
 replace hK0 := Keep.fresh hK0 hk76 (by intro i hi hs; first | exact hs | (rcases hs with hs | hs | hs; (have u9 : _ = gg7 := hs; have u0 := own62 _ (Rfr.atg ho46); have u1 := lt61 _ (Rfr.atg ho46); omega); (have u0 := own64 i hs; have u1 := lt63 i hs; omega); (have u0 := own66 i hs; have u1 := lt65 i hs; omega)))
 have own95 : ∀ q, F78 q → w.heap.size ≤ q := fun q hq => by rcases hfr80 q hq with h | h; (have h1 := own62 q h; have h2 := lt61 q h; omega); omega
 have lt94 := Rfr.lt ho79
 have dis96 : ∀ q, F78 q → ¬ inA A44 q := fun q h1 h2 => by rcases hfr80 q h1 with h | h; exact dA57 q h2 h; (have h4 := ltA44 q h2; omega)
 have own98 : ∀ q, F81 q → w.heap.size ≤ q := fun q hq => by rcases hfr83 q hq with h | h; (have h1 := own64 q h; have h2 := lt63 q h; omega); omega
 have lt97 := VotT.lt ho82
 have dis99 : ∀ q, F81 q → ¬ inA A44 q := fun q h1 h2 => by rcases hfr83 q h1 with h | h; exact dA58 q h2 h; (have h4 := ltA44 q h2; omega)
 have own101 : ∀ q, F84 q → w.heap.size ≤ q := fun q hq => by rcases hfr86 q hq with h | h; (have h1 := own66 q h; have h2 := lt65 q h; omega); omega
 have lt100 := Led.lt ho85
 have dis102 : ∀ q, F84 q → ¬ inA A44 q := fun q h1 h2 => by rcases hfr86 q h1 with h | h; exact dA59 q h2 h; (have h4 := ltA44 q h2; omega)
 have ltA77 := SlT.lt hA77
 replace ho79 : Rfr F78 w75 r6 gg7 actTs ((doD actTs 0 0 (CA.mk 2 1 6 none 0 []) (acQ [])).2.2).rs := ho79
 replace ho82 : VotT F81 w75 v8 (((doD actTs 0 0 (CA.mk 2 1 6 none 0 []) (acQ [])).2.2).s) := ho82
 replace ho85 : Led F84 w75 l9 ((doD actTs 0 0 (CA.mk 2 1 6 none 0 []) (acQ [])).2.2).xs ((doD actTs 0 0 (CA.mk 2 1 6 none 0 []) (acQ [])).2.2).cs := ho85
 rw [kn2] at ho79
 rw [kn2] at ho82
 rw [kn2] at ho85
 replace ho79 : Rfr F78 w75 r6 gg7 actTs (acQ []).rs := ho79
 replace ho82 : VotT F81 w75 v8 ((acQ []).s) := ho82
 replace ho85 : Led F84 w75 l9 (acQ []).xs (acQ []).cs := ho85
 refine Gp_ [(2, .slice A44 1 cap44),(3, nt 0),(40, .tuple #[.slice A77 (((doD actTs 0 0 (CA.mk 2 1 6 none 0 []) (acQ [])).1).length) cap77, nt ((doD actTs 0 0 (CA.mk 2 1 6 none 0 []) (acQ [])).2.1)])] <| Gq_ (u := .tuple #[.slice A77 (((doD actTs 0 0 (CA.mk 2 1 6 none 0 []) (acQ [])).1).length) cap77, nt ((doD actTs 0 0 (CA.mk 2 1 6 none 0 []) (acQ [])).2.1)]) (v := .tuple #[.slice A77 0 cap77, nt 10]) 40 (by rw [show (doD actTs 0 0 (CA.mk 2 1 6 none 0 []) (acQ [])).1 = ([] : List Evt) from by rw [kn2]]; rw [kn2] <;> rfl) <| Gn [] [2, 3, 5] <| GI_end <| X_then <| Vr <| On 9 [5, 50, 51] ?_
 obtain ⟨b103, o103, L103, T103, rfl, hat103⟩ := SlT.opn hA44
 have hb103lt := hat103.blk.lt
 have hob104 := ow44 b103 ⟨_, rfl, rfl⟩
 have hob105 := ltA44 b103 ⟨_, rfl, rfl⟩
 have hne106 : ∀ q, F78 q → q ≠ b103 := fun q hq hs => dis96 q hq ⟨_, rfl, hs⟩
 have own107 := fun q hq => And.intro (own95 q hq) (hne106 q hq)
 have hne108 : ∀ q, F81 q → q ≠ b103 := fun q hq hs => dis99 q hq ⟨_, rfl, hs⟩
 have own109 := fun q hq => And.intro (own98 q hq) (hne108 q hq)
 have hne110 : ∀ q, F84 q → q ≠ b103 := fun q hq hs => dis102 q hq ⟨_, rfl, hs⟩
 have own111 := fun q hq => And.intro (own101 q hq) (hne110 q hq)
 exact Oi (b := b103) (o := o103) (len := 1) (cap := cap44) (j := 0) (some 52) 27 (.tmp 51) (.const (Value.int IntKind.i64 0)) 52 3 24 .i64 <| La (o103 + 0 * 3) (Evt.cells (Evt.mk 5 1 7)) 3 hat103.blk (At.elem' hat103 (es_at (rfl : ([Evt.mk 5 1 7] : List Evt)[0]? = some (Evt.mk 5 1 7)))) (At.len hat103 (es_at (rfl : ([Evt.mk 5 1 7] : List Evt)[0]? = some (Evt.mk 5 1 7)))) <| On 12 [5, 50, 53, 54] <| OI_pure (some 55) ((Op.binOp BinOp.eql 52 (Operand.tmp 53) (Operand.tmp 54) 52)) (by kernel_rfl) (pure_eql_same (xs := Evt.cells (Evt.mk 5 1 7)) (by kernel_rfl) (by kernel_rfl) (by kernel_rfl) (by kernel_rfl)) <| Oen [0] <| Rr (.bool true) ⟨rfl, hK0⟩
end Go.Al
