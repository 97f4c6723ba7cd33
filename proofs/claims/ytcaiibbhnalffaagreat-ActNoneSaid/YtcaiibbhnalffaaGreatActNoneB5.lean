/-
  Put together out of 16 texts: Walks of package act: a call. Walks of package act: Do. Do, of nothing. Walks of the laws of act: tracks. Walks of the laws of act: a beginning. The document's ledger: what is told of accounts. The document's ledger: locks. The document's ledger: may. The document's led
-/
import Derived.Test.YtcaiibbhnalffaaGreatActNoneB4
namespace Go.Al
open Go Go.RowKit Go.Proofs
set_option maxRecDepth 10000 in
set_option maxHeartbeats 2000000 in
theorem does_step (d r g : Nat) (ts : List Trk) (v l : Nat) (of now : Int) (dk : CA → RW → RsA) (c : CA) (hIH : c.k = 5 → ∀ x ∈ c.kids, DoesAt d r g ts v l of now dk x) (hlen : c.k = 5 → c.kids.length ≤ 4 ∧ ∀ x ∈ c.kids, ∀ u, (dk x u).1.length ≤ 300) : DoesAt d r g ts v l of now (doS ts of now dk) c := by
 intro D H F G u w hrep hd hR hV hl hHF hHG hFG hDo hdo
 have hdlt := hd.lt
 have hHlt := Rfr.lt hR
 have hFlt := VotT.lt hV
 have hGlt := Led.lt hl
 have hgH : H g := Rfr.atg hR
 have hHd : ∀ q, H q → 0 ≤ q ∧ q ≠ d := fun q hq => ⟨Nat.zero_le _, fun e => hdo.1 (e ▸ hq)⟩
 have hFd : ∀ q, F q → 0 ≤ q ∧ q ≠ d := fun q hq => ⟨Nat.zero_le _, fun e => hdo.2.1 (e ▸ hq)⟩
 have hGd : ∀ q, G q → 0 ≤ q ∧ q ≠ d := fun q hq => ⟨Nat.zero_le _, fun e => hdo.2.2 (e ▸ hq)⟩
 have hgo : ∀ q, only g q → q ≠ d ∧ q = g := fun q hq => ⟨fun e => hdo.1 (by rw [← e, show q = g from hq]; exact hgH), hq⟩
 have hgl : ∀ q, only g q → q < w.heap.size := fun q hq => by rw [show q = g from hq]; exact hHlt _ hgH
 have hHr : ∀ q, H q → H q ∨ w.heap.size ≤ q := fun _ h => .inl h
 have hFr : ∀ q, F q → F q ∨ w.heap.size ≤ q := fun _ h => .inl h
 have hGr : ∀ q, G q → G q ∨ w.heap.size ≤ q := fun _ h => .inl h
 have hDlt : ∀ q, D q → q < w.heap.size := fun q hq => (hDo q hq).1
 have hK0 : Keep (fun q => q = g ∨ F q ∨ G q) w w := Keep.refl _ _
 have hzhK0 := Keep.size hK0
 refine enterV Tryz.func28 rfl [pt d, .agg (CA.cells c).toArray] 94 rfl rfl rfl ?_
 refine Vr ?_
 refine OI_box 26 (.tmp 1) (.agg (CA.cells c).toArray) (CA.cells c) (some 3) (by kernel_rfl) (by kernel_rfl) rfl ?_
 intro b1 w1 e1 hb1 k1 z1
 have hsz2 := Keep.size k1
 replace hd := hd.k0 k1
 replace hR := hR.keep k1 nk
 replace hV := hV.keep k1 nk
 replace hl := hl.keep k1 nk
 replace hrep := RepIn.keep hrep k1 nk
 replace hK0 := hK0.tn k1
 have hb1lt := hb1.lt
 refine Ose [(0, pt d), (3, pt b1)] ?_
 refine V_seq ?_
 refine V_draws (acts [8, 12, 13]) none_ [[0, 1, 2, 3, 4, 5, 6, 7, 8, 12, 9, 10, 13, 11, 14], [12, 0, 1, 2, 3, 4, 5, 6, 7, 8, 9, 10, 13, 11, 14]] (by kernel_rfl) (by repeat first | exact (by first | exact sure_body (by rintro _ _ ⟨_, _, h, _⟩; exact ⟨_, h⟩) | exact sure_body (by rintro _ _ ⟨_, _, h, _⟩; exact ⟨_, h⟩)) | refine sure_then ?_ | refine sure_block ?_ | refine sure_join ?_) (by kernel_rfl) ?_
 intro w4 hk3 he5 L hL6
 have hsz7 := Keep.size hk3
 replace hd := hd.k0 hk3
 replace hb1 := hb1.k0 hk3
 replace hR := hR.keep hk3 nk
 replace hV := hV.keep hk3 nk
 replace hl := hl.keep hk3 nk
 replace hrep := RepIn.keep hrep hk3 nk
 replace hK0 := hK0.tn hk3
 have qhd := hd
 have qhb1 := hb1
 have K8 : Keep none_ w4 w4 := Keep.refl _ _
 simp only [List.mem_cons, List.not_mem_nil, or_false] at hL6
 rcases hL6 with rfl | rfl
 ·
  refine Gn [3, 4, 5, 6, 7, 8, 12, 9, 10, 13, 11, 14] [0, 3, 11] ?_
  refine Gc0 33 (.tmp 11) 2 (pt r) (some 12) qhd rfl ?_
  refine Gs [7, 8, 12, 9, 10, 13, 11, 14] [(0, pt d), (3, pt b1), (12, pt r), (15, po_ d 3)] ?_
  refine Gc0 3 (.tmp 15) 3 (nt of) (some 16) qhd rfl ?_
  refine Gk (kL 26 #[(.tmp 12), (.tmp 16)] #[33, 3]) 26 #[pt r, nt of] (some 17) (rtrack_spec H r g ts u.rs of _ hR) ?_
  rintro _ w11 ⟨rfl, hk12⟩
  have K13 := K8.tr (Keep.ofNone hk12)
  refine ⟨_, rfl, K13, ?_⟩
  have hzK13 := Keep.size K13
  have hsz14 := Keep.size hk12
  replace hd := hd.k0 hk12
  replace hb1 := hb1.k0 hk12
  replace hR := hR.keep hk12 nk
  replace hV := hV.keep hk12 nk
  replace hl := hl.keep hk12 nk
  replace hrep := RepIn.keep hrep hk12 nk
  replace hK0 := hK0.tn hk12
  refine GI_alloc 80 (.agg (Trk.cells Trk.zero).toArray) (Trk.cells Trk.zero) (some 6) (by kernel_rfl) (by kernel_rfl) K13 (by kernel_rfl) (by kernel_rfl) ?_
  intro b15 w15 e15 hb15 k15 z15 K16
  have hsz17 := Keep.size k15
  replace hd := hd.k0 k15
  replace hb1 := hb1.k0 k15
  replace hR := hR.keep k15 nk
  replace hV := hV.keep k15 nk
  replace hl := hl.keep k15 nk
  replace hrep := RepIn.keep hrep k15 nk
  replace hK0 := hK0.tn k15
  have hb15lt := hb15.lt
  refine Gn [13, 11, 14] [0, 3, 6, 8, 18] ?_
  refine GI_set (m := 18) (kd := true) 80 (.tmp 6) (.tmp 18) 0 (.agg (Trk.cells (trkA ts of)).toArray) (Trk.cells (trkA ts of)) none (by kernel_rfl) (by kernel_rfl) (by kernel_rfl) (by kernel_rfl) hb15 (by kernel_rfl) rfl (Trk.len _) (Nat.le_of_ble_eq_true (by kernel_rfl)) (Trk.one _) K16 (fun hh => absurd hh (by omega)) ?_
  intro w18 hb15_21 hk19 hz20 K22
  replace hb15_21 : Blk w18 b15 (Trk.cells (trkA ts of)) 80 := (Blk.eqL (Trk.over _ _) hb15_21)
  have hsz23 := Keep.size hk19
  replace hd := hd.k1 hk19
  replace hb1 := hb1.k1 hk19
  replace hR := hR.keep hk19 (fun q hq hs => by have hs : q = b15 := hs; have g0 := hHd q hq; have g1 := hHlt q hq; omega)
  replace hV := hV.keep hk19 (fun q hq hs => by have hs : q = b15 := hs; have g0 := hFd q hq; have g1 := hFlt q hq; omega)
  replace hl := hl.keep hk19 (fun q hq hs => by have hs : q = b15 := hs; have g0 := hGd q hq; have g1 := hGlt q hq; omega)
  replace hrep := RepIn.keep hrep hk19 (fun q hq hs => by have hs : q = b15 := hs; have g1 := hDlt q hq; omega)
  replace hK0 := Keep.fr hK0 hk19
  refine Gn [] [0, 3, 6] ?_
  refine GI_end ?_
  refine X_then ?_
  refine V_seq ?_
  refine Vr ?_
  refine On 1 [0, 3, 6, 20] ?_
  refine Oc 3 (.tmp 20) 0 (nt c.k) (some 21) hb1 rfl ?_
  refine Oe ?_
  refine V_block ?_
  refine Vs [(0, pt d), (3, pt b1), (6, pt b15), (21, nt c.k), (22, .bool (decide (c.k = 1)))] ?_
  refine V_if (c.k = 1) (by kernel_rfl) (fun hc24 => ?_) (fun hc24 => ?_)
  ·
   refine V_seq ?_
   refine V_draws (acts [7]) none_ [[0, 1, 2, 3, 4, 5, 6, 7, 8, 9]] (by kernel_rfl) (by repeat first | exact (by first | exact sure_body (by rintro _ _ ⟨_, _, h, _⟩; exact ⟨_, h⟩) | exact sure_body (by rintro _ _ ⟨_, _, h, _⟩; exact ⟨_, h⟩)) | refine sure_then ?_ | refine sure_block ?_ | refine sure_join ?_) (by kernel_rfl) ?_
   intro w26 hk25 he27 L hL28
   have hsz29 := Keep.size hk25
   replace hd := hd.k0 hk25
   replace hb1 := hb1.k0 hk25
   replace hb15_21 := hb15_21.k0 hk25
   replace hR := hR.keep hk25 nk
   replace hV := hV.keep hk25 nk
   replace hl := hl.keep hk25 nk
   replace hrep := RepIn.keep hrep hk25 nk
   replace hK0 := hK0.tn hk25
   have qhd := hd
   have qhb1 := hb1
   have qhb15_21 := hb15_21
   have K30 : Keep none_ w26 w26 := Keep.refl _ _
   obtain rfl := List.mem_singleton.1 hL28
   refine Gn [3, 4, 5, 6, 7, 8, 9] [3, 26] ?_
   refine Gc0 3 (.tmp 26) 3 (nt of) (some 27) qhd rfl ?_
   refine Gn [5, 6, 7, 8, 9] [27, 28] ?_
   refine Gc0 3 (.tmp 28) 2 (nt c.n) (some 29) qhb1 rfl ?_
   refine Gs [7, 8, 9] [(30, .agg #[nt 5, nt of, nt c.n])] ?_
   refine GI_slit (E := 52) (zv := .agg #[nt 0, nt 0, nt 0]) (sz := 3) (by_ := 24) 27 1 #[(0, (Operand.tmp 30))] [.agg #[nt 5, nt of, nt c.n]] [nt 5, nt of, nt c.n] (some 31) (by kernel_rfl) (by kernel_rfl) K30 (by kernel_rfl) (by kernel_rfl) (by omega) rfl (by omega) (by intro v hv; simp only [List.mem_cons, List.not_mem_nil, or_false] at hv; rcases hv with rfl <;> rfl) (by kernel_rfl) rfl ?_
   intro b31 w31 e31 hb31 k31 z31 K32
   have hsz33 := Keep.size k31
   replace hd := hd.k0 k31
   replace hb1 := hb1.k0 k31
   replace hb15_21 := hb15_21.k0 k31
   replace hR := hR.keep k31 nk
   replace hV := hV.keep k31 nk
   replace hl := hl.keep k31 nk
   replace hrep := RepIn.keep hrep k31 nk
   replace hK0 := hK0.tn k31
   have hb31lt := hb31.lt
   refine Gs [] [(4, sl_ b31 0 1 1), (5, nt 0)] ?_
   refine GI_end ?_
   refine X_then ?_
   refine V_ret ?_
   refine X_ret_block ?_
   refine X_ret_then ?_
   have hE : doS ts of now dk c u = ([Evt.mk 5 of c.n], 0, u) := by unfold doS; rw [if_pos hc24]
   rw [hE]
   exact X_return (.tuple #[sl_ b31 0 1 1, nt 0]) rfl ⟨(some ⟨b31, 0, none⟩), 1, rfl, slt_blk (xs := [Evt.mk 5 of c.n]) hb31 Evt.len rfl, (fun q h => by have h3 := inA_some h; omega), ⟨H, F, G, hR, hV, hl, hHr, hFr, hGr, hHF, hHG, hFG, fun q h1 h2 => by have h3 := inA_some h1; have h4 := hHlt q h2; omega, fun q h1 h2 => by have h3 := inA_some h1; have h4 := hFlt q h2; omega, fun q h1 h2 => by have h3 := inA_some h1; have h4 := hGlt q h2; omega⟩, hK0⟩
  refine Vs [(0, pt d), (3, pt b1), (6, pt b15), (21, nt c.k), (32, .bool (decide (c.k = 2)))] ?_
  refine V_if (c.k = 2) (by kernel_rfl) (fun hc34 => ?_) (fun hc34 => ?_)
  ·
   refine Vr ?_
   refine On 1 [3, 6, 34] ?_
   refine Oa 80 (.tmp 6) 0 (Trk.cells (trkA ts of)) (some 35) 18 hb15_21 (take_all (Trk.len _)) (Trk.len _) ?_
   refine Oa 26 (.tmp 3) 0 (CA.cells c) (some 36) 4 hb1 (take_all (CA.len _)) (CA.len _) ?_
   refine Ok (kL 60 #[(.tmp 34), (.tmp 35), (.tmp 36)] #[84, 80, 26]) 60 #[pt d, .agg (Trk.cells (trkA ts of)).toArray, .agg (CA.cells c).toArray] (some 37) (spend_spec (trkA ts of) c d v l r of now G u _ hd hl hdo.2.2) ?_
   rintro _ w37 ⟨A39, cap39, rfl, hA39, ow39, ⟨F40, ho41, hfr42, dA43⟩, hk38⟩
   refine ⟨_, rfl, ?_⟩
   have hsz44 := Keep.size hk38
   replace hd := hd.keep hk38 (fun hs => by have h1 := hGd _ hs; have h2 := hGlt _ hs; omega)
   replace hb1 := hb1.keep hk38 (fun hs => by have h1 := hGd _ hs; have h2 := hGlt _ hs; omega)
   replace hb15_21 := hb15_21.keep hk38 (fun hs => by have h1 := hGd _ hs; have h2 := hGlt _ hs; omega)
   replace hR := hR.keep hk38 (fun q hq hs => hHG q hq hs)
   replace hV := hV.keep hk38 (fun q hq hs => hFG q hq hs)
   replace hrep := RepIn.keep hrep hk38 (fun q hq hs => (fun q h1 h2 => (hDo q h1).2.2.2 h2) q hq hs)
   replace hK0 := Keep.fresh hK0 hk38 (fun i hi hs => by rcases hGr i hs with h | h; exact .inr <| .inr <| h; (exfalso; omega))
   have own46 : ∀ q, F40 q → 0 ≤ q ∧ q ≠ d ∧ q ≠ b1 ∧ q ≠ b15 := fun q hq => by rcases hfr42 q hq with h | h; (have h1 := hGd q h; have h2 := hGlt q h; omega); omega
   have lt45 := Led.lt ho41
   have rel47 : ∀ q, F40 q → G q ∨ w.heap.size ≤ q := fun q hq => by rcases hfr42 q hq with h | h; exact hGr q h; exact .inr (by omega)
   have dis48 : ∀ q, F40 q → ¬ H q := fun q h1 h2 => by rcases hfr42 q h1 with h | h; exact (fun q h1 h2 => hHG q h2 h1) q h h2; (have h4 := hHlt q h2; omega)
   have dis49 : ∀ q, F40 q → ¬ F q := fun q h1 h2 => by rcases hfr42 q h1 with h | h; exact (fun q h1 h2 => hFG q h2 h1) q h h2; (have h4 := hFlt q h2; omega)
   have ltA39 := SlT.lt hA39
   have dis50 : ∀ q, inA A39 q → ¬ H q := fun q h1 h2 => by have h3 := ow39 q h1; have h4 := hHlt q h2; omega
   have dis51 : ∀ q, inA A39 q → ¬ F q := fun q h1 h2 => by have h3 := ow39 q h1; have h4 := hFlt q h2; omega
   refine Ose [(4, .slice A39 (((spS (trkA ts of) c u).1).length) cap39), (5, nt ((spS (trkA ts of) c u).2.1))] ?_
   refine V_ret ?_
   refine X_ret_block ?_
   refine X_ret_then ?_
   have hE : doS ts of now dk c u = spS (trkA ts of) c u := by unfold doS; rw [if_neg hc24, if_pos hc34]
   rw [hE]
   exact X_return (.tuple #[.slice A39 (((spS (trkA ts of) c u).1).length) cap39, nt ((spS (trkA ts of) c u).2.1)]) rfl ⟨A39, cap39, rfl, hA39, (fun q h => by have h1 := ow39 q h; omega), ⟨H, F, F40, (by rw [spS_rs]; exact hR), (by rw [spS_s]; exact hV), ho41, hHr, hFr, rel47, hHF, (fun q h1 h2 => dis48 q h2 h1), (fun q h1 h2 => dis49 q h2 h1), (dis50), (dis51), (dA43)⟩, hK0⟩
  refine Vs [(0, pt d), (3, pt b1), (6, pt b15), (21, nt c.k), (40, .bool (decide (c.k = 5)))] ?_
  refine V_if (c.k = 5) (by kernel_rfl) (fun hc52 => ?_) (fun hc52 => ?_)
  ·
   refine Vr ?_
   refine On 2 [42, 43] ?_
   refine Oc 24 (.tmp 43) 3 (.slice c.A c.kids.length c.cap) (some 44) hb1 rfl ?_
   have hk5 : c.k = 5 := hc52
   refine Ok (kL 61 #[(.tmp 42), (.tmp 44)] #[84, 24]) 61 #[pt d, .slice c.A c.kids.length c.cap] (some 45) (batch_spec D c.A c.cap c.kids d r g ts v l of now dk H F G u _ (fun x hx => hIH hk5 x hx) (fun x hx => (hlen hk5).2 x hx) hrep.l hd hR hV hl hHF hHG hFG (fun q hq => ⟨by have h1 := hDlt q hq; omega, (hDo q hq).2⟩) hdo (hlen hk5).1) ?_
   rintro _ w55 ⟨A57, cap57, rfl, hA57, ow57, ⟨F58, F61, F64, ho59, ho62, ho65, hfr60, hfr63, hfr66, hdis67, hdis68, hdis69, dA70, dA71, dA72⟩, hk56⟩
   refine ⟨_, rfl, ?_⟩
   have hsz73 := Keep.size hk56
   replace hd := hd.keep hk56 (fun hs => by rcases hs with hs | hs | hs; (have u0 := hgo _ hs; have u1 := hgl _ hs; omega); (have u0 := hFd _ hs; have u1 := hFlt _ hs; omega); (have u0 := hGd _ hs; have u1 := hGlt _ hs; omega))
   replace hb1 := hb1.keep hk56 (fun hs => by rcases hs with hs | hs | hs; (have u0 := hgo _ hs; have u1 := hgl _ hs; omega); (have u0 := hFd _ hs; have u1 := hFlt _ hs; omega); (have u0 := hGd _ hs; have u1 := hGlt _ hs; omega))
   replace hb15_21 := hb15_21.keep hk56 (fun hs => by rcases hs with hs | hs | hs; (have u0 := hgo _ hs; have u1 := hgl _ hs; omega); (have u0 := hFd _ hs; have u1 := hFlt _ hs; omega); (have u0 := hGd _ hs; have u1 := hGlt _ hs; omega))
   replace hrep := RepIn.keep hrep hk56 (fun q hq hs => by rcases hs with hs | hs | hs; exact (fun q h1 h2 => (hDo q h1).2.1 h2) q hq (by rw [show q = g from hs]; exact hgH); exact (fun q h1 h2 => (hDo q h1).2.2.1 h2) q hq hs; exact (fun q h1 h2 => (hDo q h1).2.2.2 h2) q hq hs)
   replace hK0 := Keep.fresh hK0 hk56 (fun i hi hs => by rcases hs with hs | hs | hs; (exact .inl hs); (rcases hFr i hs with h | h; exact .inr <| .inl h; (exfalso; omega)); (rcases hGr i hs with h | h; exact .inr <| .inr <| h; (exfalso; omega)))
   have own75 : ∀ q, F58 q → 0 ≤ q ∧ q ≠ d ∧ q ≠ b1 ∧ q ≠ b15 := fun q hq => by rcases hfr60 q hq with h | h; (have h1 := hHd q h; have h2 := hHlt q h; omega); omega
   have lt74 := Rfr.lt ho59
   have rel76 : ∀ q, F58 q → H q ∨ w.heap.size ≤ q := fun q hq => by rcases hfr60 q hq with h | h; exact hHr q h; exact .inr (by omega)
   have own78 : ∀ q, F61 q → 0 ≤ q ∧ q ≠ d ∧ q ≠ b1 ∧ q ≠ b15 := fun q hq => by rcases hfr63 q hq with h | h; (have h1 := hFd q h; have h2 := hFlt q h; omega); omega
   have lt77 := VotT.lt ho62
   have rel79 : ∀ q, F61 q → F q ∨ w.heap.size ≤ q := fun q hq => by rcases hfr63 q hq with h | h; exact hFr q h; exact .inr (by omega)
   have own81 : ∀ q, F64 q → 0 ≤ q ∧ q ≠ d ∧ q ≠ b1 ∧ q ≠ b15 := fun q hq => by rcases hfr66 q hq with h | h; (have h1 := hGd q h; have h2 := hGlt q h; omega); omega
   have lt80 := Led.lt ho65
   have rel82 : ∀ q, F64 q → G q ∨ w.heap.size ≤ q := fun q hq => by rcases hfr66 q hq with h | h; exact hGr q h; exact .inr (by omega)
   have ltA57 := SlT.lt hA57
   refine Ose [(4, .slice A57 (((batS dk c.kids [] u).1).length) cap57), (5, nt ((batS dk c.kids [] u).2.1))] ?_
   refine V_ret ?_
   refine X_ret_block ?_
   refine X_ret_then ?_
   have hE : doS ts of now dk c u = batS dk c.kids [] u := by unfold doS; rw [if_neg hc24, if_neg hc34, if_pos hc52]
   rw [hE]
   exact X_return (.tuple #[.slice A57 (((batS dk c.kids [] u).1).length) cap57, nt ((batS dk c.kids [] u).2.1)]) rfl ⟨A57, cap57, rfl, hA57, (fun q h => by have h1 := ow57 q h; omega), ⟨F58, F61, F64, ho59, ho62, ho65, rel76, rel79, rel82, hdis67, hdis68, hdis69, (dA70), (dA71), (dA72)⟩, hK0⟩
  refine Vs [(0, pt d), (3, pt b1), (6, pt b15), (48, .bool (decide (c.k = 3)))] ?_
  refine V_if (c.k = 3) (by kernel_rfl) (fun hc83 => ?_) (fun hc83 => ?_)
  ·
   refine V_seq ?_
   refine Vr ?_
   refine On 1 [0, 3, 50] ?_
   refine Oc 3 (.tmp 50) 17 (nt ((trkA ts of).rank)) (some 51) hb15_21 rfl ?_
   refine Ose [(0, pt d), (3, pt b1), (52, .bool (decide ((trkA ts of).rank < 1)))] ?_
   refine V_if ((trkA ts of).rank < 1) (by kernel_rfl) (fun hc84 => ?_) (fun hc84 => ?_)
   ·
    refine Vs [(4, .slice none 0 0), (5, nt 8)] ?_
    refine V_ret ?_
    refine X_ret_then ?_
    refine X_ret_block ?_
    refine X_ret_then ?_
    have hE : doS ts of now dk c u = ([], 8, u) := by unfold doS; rw [if_neg hc24, if_neg hc34, if_neg hc52, if_pos hc83, if_pos hc84]
    rw [hE]
    exact X_return (.tuple #[.slice none 0 0, nt 8]) rfl ⟨none, 0, rfl, SlT.nil _ _ _, (fun q h => (inA_none h).elim), ⟨H, F, G, hR, hV, hl, hHr, hFr, hGr, hHF, hHG, hFG, fun q h => (inA_none h).elim, fun q h => (inA_none h).elim, fun q h => (inA_none h).elim⟩, hK0⟩
   refine V_skip ?_
   refine X_then ?_
   refine V_seq ?_
   refine V_draws (acts [14]) none_ [[0, 1, 2, 3, 4, 5, 6, 7, 8, 9, 10, 11, 12, 13, 14, 15, 16, 17, 18]] (by kernel_rfl) (by repeat first | exact (by first | exact sure_body (by rintro _ _ ⟨_, _, h, _⟩; exact ⟨_, h⟩) | exact sure_body (by rintro _ _ ⟨_, _, h, _⟩; exact ⟨_, h⟩)) | refine sure_then ?_ | refine sure_block ?_ | refine sure_join ?_) (by kernel_rfl) ?_
   intro w86 hk85 he87 L hL88
   have hsz89 := Keep.size hk85
   replace hd := hd.k0 hk85
   replace hb1 := hb1.k0 hk85
   replace hb15_21 := hb15_21.k0 hk85
   replace hR := hR.keep hk85 nk
   replace hV := hV.keep hk85 nk
   replace hl := hl.keep hk85 nk
   replace hrep := RepIn.keep hrep hk85 nk
   replace hK0 := hK0.tn hk85
   have qhd := hd
   have qhb1 := hb1
   have qhb15_21 := hb15_21
   have K90 : Keep none_ w86 w86 := Keep.refl _ _
   obtain rfl := List.mem_singleton.1 hL88
   refine Gn [3, 4, 5, 6, 7, 8, 9, 10, 11, 12, 13, 14, 15, 16, 17, 18] [0, 3, 55] ?_
   refine Gc0 33 (.tmp 55) 2 (pt r) (some 56) qhd rfl ?_
   refine Gn [7, 8, 9, 10, 11, 12, 13, 14, 15, 16, 17, 18] [0, 3, 56, 59] ?_
   refine Gc0 32 (.tmp 59) 1 (pt v) (some 60) qhd rfl ?_
   refine Gn [9, 10, 11, 12, 13, 14, 15, 16, 17, 18] [0, 56, 60, 61] ?_
   refine Gc0 3 (.tmp 61) 2 (nt c.n) (some 62) qhb1 rfl ?_
   refine Gn [13, 14, 15, 16, 17, 18] [56, 60, 62, 65] ?_
   refine Gc0 3 (.tmp 65) 4 (nt now) (some 66) qhd rfl ?_
   refine Gk0 (kL 62 #[(.tmp 56), (.tmp 60), (.tmp 62), (.tmp 66)] #[33, 32, 3, 3]) 62 #[pt r, pt v, nt c.n, nt now] (some 67) (cancel_spec H r g ts u.rs F v u.s c.n now _ hR hV hHF) ?_
   rintro _ w93 ⟨A95, cap95, rfl, hA95, ow95, ⟨F96, F99, ho97, ho100, hfr98, hfr101, hdis102, dA103, dA104⟩, hk94⟩
   refine ⟨_, rfl, ?_⟩
   have hsz105 := Keep.size hk94
   replace hd := hd.keep hk94 (fun hs => by rcases hs with hs | hs; (have u0 := hgo _ hs; have u1 := hgl _ hs; omega); (have u0 := hFd _ hs; have u1 := hFlt _ hs; omega))
   replace hb1 := hb1.keep hk94 (fun hs => by rcases hs with hs | hs; (have u0 := hgo _ hs; have u1 := hgl _ hs; omega); (have u0 := hFd _ hs; have u1 := hFlt _ hs; omega))
   replace hb15_21 := hb15_21.keep hk94 (fun hs => by rcases hs with hs | hs; (have u0 := hgo _ hs; have u1 := hgl _ hs; omega); (have u0 := hFd _ hs; have u1 := hFlt _ hs; omega))
   replace hl := hl.keep hk94 (fun q hq hs => by rcases hs with hs | hs; exact (fun q h1 h2 => hHG q h2 h1) q hq (by rw [show q = g from hs]; exact hgH); exact (fun q h1 h2 => hFG q h2 h1) q hq hs)
   replace hrep := RepIn.keep hrep hk94 (fun q hq hs => by rcases hs with hs | hs; exact (fun q h1 h2 => (hDo q h1).2.1 h2) q hq (by rw [show q = g from hs]; exact hgH); exact (fun q h1 h2 => (hDo q h1).2.2.1 h2) q hq hs)
   replace hK0 := Keep.fresh hK0 hk94 (fun i hi hs => by rcases hs with hs | hs; (exact .inl hs); (rcases hFr i hs with h | h; exact .inr <| .inl h; (exfalso; omega)))
   have own107 : ∀ q, F96 q → 0 ≤ q ∧ q ≠ d ∧ q ≠ b1 ∧ q ≠ b15 := fun q hq => by rcases hfr98 q hq with h | h; (have h1 := hHd q h; have h2 := hHlt q h; omega); omega
   have lt106 := Rfr.lt ho97
   have rel108 : ∀ q, F96 q → H q ∨ w.heap.size ≤ q := fun q hq => by rcases hfr98 q hq with h | h; exact hHr q h; exact .inr (by omega)
   have dis109 : ∀ q, F96 q → ¬ G q := fun q h1 h2 => by rcases hfr98 q h1 with h | h; exact hHG q h h2; (have h4 := hGlt q h2; omega)
   have own111 : ∀ q, F99 q → 0 ≤ q ∧ q ≠ d ∧ q ≠ b1 ∧ q ≠ b15 := fun q hq => by rcases hfr101 q hq with h | h; (have h1 := hFd q h; have h2 := hFlt q h; omega); omega
   have lt110 := VotT.lt ho100
   have rel112 : ∀ q, F99 q → F q ∨ w.heap.size ≤ q := fun q hq => by rcases hfr101 q hq with h | h; exact hFr q h; exact .inr (by omega)
   have dis113 : ∀ q, F99 q → ¬ G q := fun q h1 h2 => by rcases hfr101 q h1 with h | h; exact hFG q h h2; (have h4 := hGlt q h2; omega)
   have ltA95 := SlT.lt hA95
   have dis114 : ∀ q, inA A95 q → ¬ G q := fun q h1 h2 => by have h3 := ow95 q h1; have h4 := hGlt q h2; omega
   refine Gs [] [(4, .slice A95 ((canL u.rs c.n).length) cap95), (5, nt (ongE u.rs c.n))] ?_
   refine GI_end ?_
   refine X_then ?_
   refine V_ret ?_
   refine X_ret_block ?_
   refine X_ret_then ?_
   have hE : doS ts of now dk c u = (canL u.rs c.n, ongE u.rs c.n, rwCan u c.n now) := by unfold doS; rw [if_neg hc24, if_neg hc34, if_neg hc52, if_pos hc83, if_neg hc84]
   rw [hE]
   exact X_return (.tuple #[.slice A95 ((canL u.rs c.n).length) cap95, nt (ongE u.rs c.n)]) rfl ⟨A95, cap95, rfl, hA95, (fun q h => by have h1 := ow95 q h; omega), ⟨F96, F99, G, ho97, ho100, hl, rel108, rel112, hGr, hdis102, dis109, dis113, (dA103), (dA104), (dis114)⟩, hK0⟩
  refine V_skip ?_
  refine X_block ?_
  refine X_then ?_
  refine V_seq ?_
  refine Vr ?_
  refine On 1 [0, 3, 70] ?_
  refine Oc 3 (.tmp 70) 17 (nt ((trkA ts of).rank)) (some 71) hb15_21 rfl ?_
  refine Ose [(0, pt d), (3, pt b1), (72, .bool (decide ((trkA ts of).rank < 2)))] ?_
  refine V_if ((trkA ts of).rank < 2) (by kernel_rfl) (fun hc115 => ?_) (fun hc115 => ?_)
  ·
   refine Vs [(4, .slice none 0 0), (5, nt 8)] ?_
   refine V_ret ?_
   refine X_ret_then ?_
   have hE : doS ts of now dk c u = ([], 8, u) := by unfold doS; rw [if_neg hc24, if_neg hc34, if_neg hc52, if_neg hc83, if_pos hc115]
   rw [hE]
   exact X_return (.tuple #[.slice none 0 0, nt 8]) rfl ⟨none, 0, rfl, SlT.nil _ _ _, (fun q h => (inA_none h).elim), ⟨H, F, G, hR, hV, hl, hHr, hFr, hGr, hHF, hHG, hFG, fun q h => (inA_none h).elim, fun q h => (inA_none h).elim, fun q h => (inA_none h).elim⟩, hK0⟩
  refine V_skip ?_
  refine X_then ?_
  refine V_seq ?_
  refine V_draws (acts [18]) none_ [[0, 1, 2, 3, 4, 5, 6, 7, 8, 9, 10, 11, 12, 13, 14, 15, 16, 17, 18, 19, 20, 21, 22]] (by kernel_rfl) (by repeat first | exact (by first | exact sure_body (by rintro _ _ ⟨_, _, h, _⟩; exact ⟨_, h⟩) | exact sure_body (by rintro _ _ ⟨_, _, h, _⟩; exact ⟨_, h⟩)) | refine sure_then ?_ | refine sure_block ?_ | refine sure_join ?_) (by kernel_rfl) ?_
  intro w117 hk116 he118 L hL119
  have hsz120 := Keep.size hk116
  replace hd := hd.k0 hk116
  replace hb1 := hb1.k0 hk116
  replace hb15_21 := hb15_21.k0 hk116
  replace hR := hR.keep hk116 nk
  replace hV := hV.keep hk116 nk
  replace hl := hl.keep hk116 nk
  replace hrep := RepIn.keep hrep hk116 nk
  replace hK0 := hK0.tn hk116
  have qhd := hd
  have qhb1 := hb1
  have qhb15_21 := hb15_21
  have K121 : Keep none_ w117 w117 := Keep.refl _ _
  obtain rfl := List.mem_singleton.1 hL119
  refine Gn [3, 4, 5, 6, 7, 8, 9, 10, 11, 12, 13, 14, 15, 16, 17, 18, 19, 20, 21, 22] [0, 3, 75] ?_
  refine Gc0 33 (.tmp 75) 2 (pt r) (some 76) qhd rfl ?_
  refine Gn [7, 8, 9, 10, 11, 12, 13, 14, 15, 16, 17, 18, 19, 20, 21, 22] [0, 3, 76, 79] ?_
  refine Gc0 31 (.tmp 79) 0 (pt l) (some 80) qhd rfl ?_
  refine Gn [11, 12, 13, 14, 15, 16, 17, 18, 19, 20, 21, 22] [0, 3, 76, 80, 83] ?_
  refine Gc0 32 (.tmp 83) 1 (pt v) (some 84) qhd rfl ?_
  refine Gn [13, 14, 15, 16, 17, 18, 19, 20, 21, 22] [0, 76, 80, 84, 85] ?_
  refine Gc0 3 (.tmp 85) 2 (nt c.n) (some 86) qhb1 rfl ?_
  refine Gn [17, 18, 19, 20, 21, 22] [76, 80, 84, 86, 89] ?_
  refine Gc0 3 (.tmp 89) 4 (nt now) (some 90) qhd rfl ?_
  refine Gk0 (kL 63 #[(.tmp 76), (.tmp 80), (.tmp 84), (.tmp 86), (.tmp 90)] #[33, 31, 32, 3, 3]) 63 #[pt r, pt l, pt v, nt c.n, nt now] (some 91) (kill_spec H r g ts u.rs F v u.s G l u.xs u.cs c.n now _ hR hV hl hHF hHG hFG) ?_
  rintro _ w124 ⟨A126, cap126, rfl, hA126, ow126, ⟨F127, F130, F133, ho128, ho131, ho134, hfr129, hfr132, hfr135, hdis136, hdis137, hdis138, dA139, dA140, dA141⟩, hk125⟩
  refine ⟨_, rfl, ?_⟩
  have hsz142 := Keep.size hk125
  replace hd := hd.keep hk125 (fun hs => by rcases hs with hs | hs | hs; (have u0 := hgo _ hs; have u1 := hgl _ hs; omega); (have u0 := hFd _ hs; have u1 := hFlt _ hs; omega); (have u0 := hGd _ hs; have u1 := hGlt _ hs; omega))
  replace hb1 := hb1.keep hk125 (fun hs => by rcases hs with hs | hs | hs; (have u0 := hgo _ hs; have u1 := hgl _ hs; omega); (have u0 := hFd _ hs; have u1 := hFlt _ hs; omega); (have u0 := hGd _ hs; have u1 := hGlt _ hs; omega))
  replace hb15_21 := hb15_21.keep hk125 (fun hs => by rcases hs with hs | hs | hs; (have u0 := hgo _ hs; have u1 := hgl _ hs; omega); (have u0 := hFd _ hs; have u1 := hFlt _ hs; omega); (have u0 := hGd _ hs; have u1 := hGlt _ hs; omega))
  replace hrep := RepIn.keep hrep hk125 (fun q hq hs => by rcases hs with hs | hs | hs; exact (fun q h1 h2 => (hDo q h1).2.1 h2) q hq (by rw [show q = g from hs]; exact hgH); exact (fun q h1 h2 => (hDo q h1).2.2.1 h2) q hq hs; exact (fun q h1 h2 => (hDo q h1).2.2.2 h2) q hq hs)
  replace hK0 := Keep.fresh hK0 hk125 (fun i hi hs => by rcases hs with hs | hs | hs; (exact .inl hs); (rcases hFr i hs with h | h; exact .inr <| .inl h; (exfalso; omega)); (rcases hGr i hs with h | h; exact .inr <| .inr <| h; (exfalso; omega)))
  have own144 : ∀ q, F127 q → 0 ≤ q ∧ q ≠ d ∧ q ≠ b1 ∧ q ≠ b15 := fun q hq => by rcases hfr129 q hq with h | h; (have h1 := hHd q h; have h2 := hHlt q h; omega); omega
  have lt143 := Rfr.lt ho128
  have rel145 : ∀ q, F127 q → H q ∨ w.heap.size ≤ q := fun q hq => by rcases hfr129 q hq with h | h; exact hHr q h; exact .inr (by omega)
  have own147 : ∀ q, F130 q → 0 ≤ q ∧ q ≠ d ∧ q ≠ b1 ∧ q ≠ b15 := fun q hq => by rcases hfr132 q hq with h | h; (have h1 := hFd q h; have h2 := hFlt q h; omega); omega
  have lt146 := VotT.lt ho131
  have rel148 : ∀ q, F130 q → F q ∨ w.heap.size ≤ q := fun q hq => by rcases hfr132 q hq with h | h; exact hFr q h; exact .inr (by omega)
  have own150 : ∀ q, F133 q → 0 ≤ q ∧ q ≠ d ∧ q ≠ b1 ∧ q ≠ b15 := fun q hq => by rcases hfr135 q hq with h | h; (have h1 := hGd q h; have h2 := hGlt q h; omega); omega
  have lt149 := Led.lt ho134
  have rel151 : ∀ q, F133 q → G q ∨ w.heap.size ≤ q := fun q hq => by rcases hfr135 q hq with h | h; exact hGr q h; exact .inr (by omega)
  have ltA126 := SlT.lt hA126
  refine Gs [] [(4, .slice A126 ((kilL u.xs ts u.rs c.n).length) cap126), (5, nt (ongE u.rs c.n))] ?_
  refine GI_end ?_
  refine X_then ?_
  refine V_ret ?_
  have hE : doS ts of now dk c u = (kilL u.xs ts u.rs c.n, ongE u.rs c.n, rwKil ts u c.n now) := by unfold doS; rw [if_neg hc24, if_neg hc34, if_neg hc52, if_neg hc83, if_neg hc115]
  rw [hE]
  exact X_return (.tuple #[.slice A126 ((kilL u.xs ts u.rs c.n).length) cap126, nt (ongE u.rs c.n)]) rfl ⟨A126, cap126, rfl, hA126, (fun q h => by have h1 := ow126 q h; omega), ⟨F127, F130, F133, ho128, ho131, ho134, rel145, rel148, rel151, hdis136, hdis137, hdis138, (dA139), (dA140), (dA141)⟩, hK0⟩
 ·
  refine GI_alloc 80 (.agg (Trk.cells Trk.zero).toArray) (Trk.cells Trk.zero) (some 6) (by kernel_rfl) (by kernel_rfl) K8 (by kernel_rfl) (by kernel_rfl) ?_
  intro b152 w152 e152 hb152 k152 z152 K153
  have hsz154 := Keep.size k152
  replace hd := hd.k0 k152
  replace hb1 := hb1.k0 k152
  replace hR := hR.keep k152 nk
  replace hV := hV.keep k152 nk
  replace hl := hl.keep k152 nk
  replace hrep := RepIn.keep hrep k152 nk
  replace hK0 := hK0.tn k152
  have hb152lt := hb152.lt
  refine Gn [3, 4, 5, 6, 7, 8, 9, 10, 13, 11, 14] [0, 3, 6, 11] ?_
  refine Gc0 33 (.tmp 11) 2 (pt r) (some 12) qhd rfl ?_
  refine Gs [7, 8, 9, 10, 13, 11, 14] [(0, pt d), (3, pt b1), (6, pt b152), (12, pt r), (15, po_ d 3)] ?_
  refine Gc0 3 (.tmp 15) 3 (nt of) (some 16) qhd rfl ?_
  refine Gk (kL 26 #[(.tmp 12), (.tmp 16)] #[33, 3]) 26 #[pt r, nt of] (some 17) (rtrack_spec H r g ts u.rs of _ hR) ?_
  rintro _ w157 ⟨rfl, hk158⟩
  have K159 := K153.tr (Keep.ofNone hk158)
  refine ⟨_, rfl, K159, ?_⟩
  have hzK159 := Keep.size K159
  have hsz160 := Keep.size hk158
  replace hd := hd.k0 hk158
  replace hb1 := hb1.k0 hk158
  replace hb152 := hb152.k0 hk158
  replace hR := hR.keep hk158 nk
  replace hV := hV.keep hk158 nk
  replace hl := hl.keep hk158 nk
  replace hrep := RepIn.keep hrep hk158 nk
  replace hK0 := hK0.tn hk158
  refine Gn [13, 11, 14] [0, 3, 6, 8, 18] ?_
  refine GI_set (m := 18) (kd := true) 80 (.tmp 6) (.tmp 18) 0 (.agg (Trk.cells (trkA ts of)).toArray) (Trk.cells (trkA ts of)) none (by kernel_rfl) (by kernel_rfl) (by kernel_rfl) (by kernel_rfl) hb152 (by kernel_rfl) rfl (Trk.len _) (Nat.le_of_ble_eq_true (by kernel_rfl)) (Trk.one _) K159 (fun hh => absurd hh (by omega)) ?_
  intro w161 hb152_164 hk162 hz163 K165
  replace hb152_164 : Blk w161 b152 (Trk.cells (trkA ts of)) 80 := (Blk.eqL (Trk.over _ _) hb152_164)
  have hsz166 := Keep.size hk162
  replace hd := hd.k1 hk162
  replace hb1 := hb1.k1 hk162
  replace hR := hR.keep hk162 (fun q hq hs => by have hs : q = b152 := hs; have g0 := hHd q hq; have g1 := hHlt q hq; omega)
  replace hV := hV.keep hk162 (fun q hq hs => by have hs : q = b152 := hs; have g0 := hFd q hq; have g1 := hFlt q hq; omega)
  replace hl := hl.keep hk162 (fun q hq hs => by have hs : q = b152 := hs; have g0 := hGd q hq; have g1 := hGlt q hq; omega)
  replace hrep := RepIn.keep hrep hk162 (fun q hq hs => by have hs : q = b152 := hs; have g1 := hDlt q hq; omega)
  replace hK0 := Keep.fr hK0 hk162
  refine Gn [] [0, 3, 6] ?_
  refine GI_end ?_
  refine X_then ?_
  refine V_seq ?_
  refine Vr ?_
  refine On 1 [0, 3, 6, 20] ?_
  refine Oc 3 (.tmp 20) 0 (nt c.k) (some 21) hb1 rfl ?_
  refine Oe ?_
  refine V_block ?_
  refine Vs [(0, pt d), (3, pt b1), (6, pt b152), (21, nt c.k), (22, .bool (decide (c.k = 1)))] ?_
  refine V_if (c.k = 1) (by kernel_rfl) (fun hc167 => ?_) (fun hc167 => ?_)
  ·
   refine V_seq ?_
   refine V_draws (acts [7]) none_ [[0, 1, 2, 3, 4, 5, 6, 7, 8, 9]] (by kernel_rfl) (by repeat first | exact (by first | exact sure_body (by rintro _ _ ⟨_, _, h, _⟩; exact ⟨_, h⟩) | exact sure_body (by rintro _ _ ⟨_, _, h, _⟩; exact ⟨_, h⟩)) | refine sure_then ?_ | refine sure_block ?_ | refine sure_join ?_) (by kernel_rfl) ?_
   intro w169 hk168 he170 L hL171
   have hsz172 := Keep.size hk168
   replace hd := hd.k0 hk168
   replace hb1 := hb1.k0 hk168
   replace hb152_164 := hb152_164.k0 hk168
   replace hR := hR.keep hk168 nk
   replace hV := hV.keep hk168 nk
   replace hl := hl.keep hk168 nk
   replace hrep := RepIn.keep hrep hk168 nk
   replace hK0 := hK0.tn hk168
   have qhd := hd
   have qhb1 := hb1
   have qhb152_164 := hb152_164
   have K173 : Keep none_ w169 w169 := Keep.refl _ _
   obtain rfl := List.mem_singleton.1 hL171
   refine Gn [3, 4, 5, 6, 7, 8, 9] [3, 26] ?_
   refine Gc0 3 (.tmp 26) 3 (nt of) (some 27) qhd rfl ?_
   refine Gn [5, 6, 7, 8, 9] [27, 28] ?_
   refine Gc0 3 (.tmp 28) 2 (nt c.n) (some 29) qhb1 rfl ?_
   refine Gs [7, 8, 9] [(30, .agg #[nt 5, nt of, nt c.n])] ?_
   refine GI_slit (E := 52) (zv := .agg #[nt 0, nt 0, nt 0]) (sz := 3) (by_ := 24) 27 1 #[(0, (Operand.tmp 30))] [.agg #[nt 5, nt of, nt c.n]] [nt 5, nt of, nt c.n] (some 31) (by kernel_rfl) (by kernel_rfl) K173 (by kernel_rfl) (by kernel_rfl) (by omega) rfl (by omega) (by intro v hv; simp only [List.mem_cons, List.not_mem_nil, or_false] at hv; rcases hv with rfl <;> rfl) (by kernel_rfl) rfl ?_
   intro b174 w174 e174 hb174 k174 z174 K175
   have hsz176 := Keep.size k174
   replace hd := hd.k0 k174
   replace hb1 := hb1.k0 k174
   replace hb152_164 := hb152_164.k0 k174
   replace hR := hR.keep k174 nk
   replace hV := hV.keep k174 nk
   replace hl := hl.keep k174 nk
   replace hrep := RepIn.keep hrep k174 nk
   replace hK0 := hK0.tn k174
   have hb174lt := hb174.lt
   refine Gs [] [(4, sl_ b174 0 1 1), (5, nt 0)] ?_
   refine GI_end ?_
   refine X_then ?_
   refine V_ret ?_
   refine X_ret_block ?_
   refine X_ret_then ?_
   have hE : doS ts of now dk c u = ([Evt.mk 5 of c.n], 0, u) := by unfold doS; rw [if_pos hc167]
   rw [hE]
   exact X_return (.tuple #[sl_ b174 0 1 1, nt 0]) rfl ⟨(some ⟨b174, 0, none⟩), 1, rfl, slt_blk (xs := [Evt.mk 5 of c.n]) hb174 Evt.len rfl, (fun q h => by have h3 := inA_some h; omega), ⟨H, F, G, hR, hV, hl, hHr, hFr, hGr, hHF, hHG, hFG, fun q h1 h2 => by have h3 := inA_some h1; have h4 := hHlt q h2; omega, fun q h1 h2 => by have h3 := inA_some h1; have h4 := hFlt q h2; omega, fun q h1 h2 => by have h3 := inA_some h1; have h4 := hGlt q h2; omega⟩, hK0⟩
  refine Vs [(0, pt d), (3, pt b1), (6, pt b152), (21, nt c.k), (32, .bool (decide (c.k = 2)))] ?_
  refine V_if (c.k = 2) (by kernel_rfl) (fun hc177 => ?_) (fun hc177 => ?_)
  ·
   refine Vr ?_
   refine On 1 [3, 6, 34] ?_
   refine Oa 80 (.tmp 6) 0 (Trk.cells (trkA ts of)) (some 35) 18 hb152_164 (take_all (Trk.len _)) (Trk.len _) ?_
   refine Oa 26 (.tmp 3) 0 (CA.cells c) (some 36) 4 hb1 (take_all (CA.len _)) (CA.len _) ?_
   refine Ok (kL 60 #[(.tmp 34), (.tmp 35), (.tmp 36)] #[84, 80, 26]) 60 #[pt d, .agg (Trk.cells (trkA ts of)).toArray, .agg (CA.cells c).toArray] (some 37) (spend_spec (trkA ts of) c d v l r of now G u _ hd hl hdo.2.2) ?_
   rintro _ w180 ⟨A182, cap182, rfl, hA182, ow182, ⟨F183, ho184, hfr185, dA186⟩, hk181⟩
   refine ⟨_, rfl, ?_⟩
   have hsz187 := Keep.size hk181
   replace hd := hd.keep hk181 (fun hs => by have h1 := hGd _ hs; have h2 := hGlt _ hs; omega)
   replace hb1 := hb1.keep hk181 (fun hs => by have h1 := hGd _ hs; have h2 := hGlt _ hs; omega)
   replace hb152_164 := hb152_164.keep hk181 (fun hs => by have h1 := hGd _ hs; have h2 := hGlt _ hs; omega)
   replace hR := hR.keep hk181 (fun q hq hs => hHG q hq hs)
   replace hV := hV.keep hk181 (fun q hq hs => hFG q hq hs)
   replace hrep := RepIn.keep hrep hk181 (fun q hq hs => (fun q h1 h2 => (hDo q h1).2.2.2 h2) q hq hs)
   replace hK0 := Keep.fresh hK0 hk181 (fun i hi hs => by rcases hGr i hs with h | h; exact .inr <| .inr <| h; (exfalso; omega))
   have own189 : ∀ q, F183 q → 0 ≤ q ∧ q ≠ d ∧ q ≠ b1 ∧ q ≠ b152 := fun q hq => by rcases hfr185 q hq with h | h; (have h1 := hGd q h; have h2 := hGlt q h; omega); omega
   have lt188 := Led.lt ho184
   have rel190 : ∀ q, F183 q → G q ∨ w.heap.size ≤ q := fun q hq => by rcases hfr185 q hq with h | h; exact hGr q h; exact .inr (by omega)
   have dis191 : ∀ q, F183 q → ¬ H q := fun q h1 h2 => by rcases hfr185 q h1 with h | h; exact (fun q h1 h2 => hHG q h2 h1) q h h2; (have h4 := hHlt q h2; omega)
   have dis192 : ∀ q, F183 q → ¬ F q := fun q h1 h2 => by rcases hfr185 q h1 with h | h; exact (fun q h1 h2 => hFG q h2 h1) q h h2; (have h4 := hFlt q h2; omega)
   have ltA182 := SlT.lt hA182
   have dis193 : ∀ q, inA A182 q → ¬ H q := fun q h1 h2 => by have h3 := ow182 q h1; have h4 := hHlt q h2; omega
   have dis194 : ∀ q, inA A182 q → ¬ F q := fun q h1 h2 => by have h3 := ow182 q h1; have h4 := hFlt q h2; omega
   refine Ose [(4, .slice A182 (((spS (trkA ts of) c u).1).length) cap182), (5, nt ((spS (trkA ts of) c u).2.1))] ?_
   refine V_ret ?_
   refine X_ret_block ?_
   refine X_ret_then ?_
   have hE : doS ts of now dk c u = spS (trkA ts of) c u := by unfold doS; rw [if_neg hc167, if_pos hc177]
   rw [hE]
   exact X_return (.tuple #[.slice A182 (((spS (trkA ts of) c u).1).length) cap182, nt ((spS (trkA ts of) c u).2.1)]) rfl ⟨A182, cap182, rfl, hA182, (fun q h => by have h1 := ow182 q h; omega), ⟨H, F, F183, (by rw [spS_rs]; exact hR), (by rw [spS_s]; exact hV), ho184, hHr, hFr, rel190, hHF, (fun q h1 h2 => dis191 q h2 h1), (fun q h1 h2 => dis192 q h2 h1), (dis193), (dis194), (dA186)⟩, hK0⟩
  refine Vs [(0, pt d), (3, pt b1), (6, pt b152), (21, nt c.k), (40, .bool (decide (c.k = 5)))] ?_
  refine V_if (c.k = 5) (by kernel_rfl) (fun hc195 => ?_) (fun hc195 => ?_)
  ·
   refine Vr ?_
   refine On 2 [42, 43] ?_
   refine Oc 24 (.tmp 43) 3 (.slice c.A c.kids.length c.cap) (some 44) hb1 rfl ?_
   have hk5 : c.k = 5 := hc195
   refine Ok (kL 61 #[(.tmp 42), (.tmp 44)] #[84, 24]) 61 #[pt d, .slice c.A c.kids.length c.cap] (some 45) (batch_spec D c.A c.cap c.kids d r g ts v l of now dk H F G u _ (fun x hx => hIH hk5 x hx) (fun x hx => (hlen hk5).2 x hx) hrep.l hd hR hV hl hHF hHG hFG (fun q hq => ⟨by have h1 := hDlt q hq; omega, (hDo q hq).2⟩) hdo (hlen hk5).1) ?_
   rintro _ w198 ⟨A200, cap200, rfl, hA200, ow200, ⟨F201, F204, F207, ho202, ho205, ho208, hfr203, hfr206, hfr209, hdis210, hdis211, hdis212, dA213, dA214, dA215⟩, hk199⟩
   refine ⟨_, rfl, ?_⟩
   have hsz216 := Keep.size hk199
   replace hd := hd.keep hk199 (fun hs => by rcases hs with hs | hs | hs; (have u0 := hgo _ hs; have u1 := hgl _ hs; omega); (have u0 := hFd _ hs; have u1 := hFlt _ hs; omega); (have u0 := hGd _ hs; have u1 := hGlt _ hs; omega))
   replace hb1 := hb1.keep hk199 (fun hs => by rcases hs with hs | hs | hs; (have u0 := hgo _ hs; have u1 := hgl _ hs; omega); (have u0 := hFd _ hs; have u1 := hFlt _ hs; omega); (have u0 := hGd _ hs; have u1 := hGlt _ hs; omega))
   replace hb152_164 := hb152_164.keep hk199 (fun hs => by rcases hs with hs | hs | hs; (have u0 := hgo _ hs; have u1 := hgl _ hs; omega); (have u0 := hFd _ hs; have u1 := hFlt _ hs; omega); (have u0 := hGd _ hs; have u1 := hGlt _ hs; omega))
   replace hrep := RepIn.keep hrep hk199 (fun q hq hs => by rcases hs with hs | hs | hs; exact (fun q h1 h2 => (hDo q h1).2.1 h2) q hq (by rw [show q = g from hs]; exact hgH); exact (fun q h1 h2 => (hDo q h1).2.2.1 h2) q hq hs; exact (fun q h1 h2 => (hDo q h1).2.2.2 h2) q hq hs)
   replace hK0 := Keep.fresh hK0 hk199 (fun i hi hs => by rcases hs with hs | hs | hs; (exact .inl hs); (rcases hFr i hs with h | h; exact .inr <| .inl h; (exfalso; omega)); (rcases hGr i hs with h | h; exact .inr <| .inr <| h; (exfalso; omega)))
   have own218 : ∀ q, F201 q → 0 ≤ q ∧ q ≠ d ∧ q ≠ b1 ∧ q ≠ b152 := fun q hq => by rcases hfr203 q hq with h | h; (have h1 := hHd q h; have h2 := hHlt q h; omega); omega
   have lt217 := Rfr.lt ho202
   have rel219 : ∀ q, F201 q → H q ∨ w.heap.size ≤ q := fun q hq => by rcases hfr203 q hq with h | h; exact hHr q h; exact .inr (by omega)
   have own221 : ∀ q, F204 q → 0 ≤ q ∧ q ≠ d ∧ q ≠ b1 ∧ q ≠ b152 := fun q hq => by rcases hfr206 q hq with h | h; (have h1 := hFd q h; have h2 := hFlt q h; omega); omega
   have lt220 := VotT.lt ho205
   have rel222 : ∀ q, F204 q → F q ∨ w.heap.size ≤ q := fun q hq => by rcases hfr206 q hq with h | h; exact hFr q h; exact .inr (by omega)
   have own224 : ∀ q, F207 q → 0 ≤ q ∧ q ≠ d ∧ q ≠ b1 ∧ q ≠ b152 := fun q hq => by rcases hfr209 q hq with h | h; (have h1 := hGd q h; have h2 := hGlt q h; omega); omega
   have lt223 := Led.lt ho208
   have rel225 : ∀ q, F207 q → G q ∨ w.heap.size ≤ q := fun q hq => by rcases hfr209 q hq with h | h; exact hGr q h; exact .inr (by omega)
   have ltA200 := SlT.lt hA200
   refine Ose [(4, .slice A200 (((batS dk c.kids [] u).1).length) cap200), (5, nt ((batS dk c.kids [] u).2.1))] ?_
   refine V_ret ?_
   refine X_ret_block ?_
   refine X_ret_then ?_
   have hE : doS ts of now dk c u = batS dk c.kids [] u := by unfold doS; rw [if_neg hc167, if_neg hc177, if_pos hc195]
   rw [hE]
   exact X_return (.tuple #[.slice A200 (((batS dk c.kids [] u).1).length) cap200, nt ((batS dk c.kids [] u).2.1)]) rfl ⟨A200, cap200, rfl, hA200, (fun q h => by have h1 := ow200 q h; omega), ⟨F201, F204, F207, ho202, ho205, ho208, rel219, rel222, rel225, hdis210, hdis211, hdis212, (dA213), (dA214), (dA215)⟩, hK0⟩
  refine Vs [(0, pt d), (3, pt b1), (6, pt b152), (48, .bool (decide (c.k = 3)))] ?_
  refine V_if (c.k = 3) (by kernel_rfl) (fun hc226 => ?_) (fun hc226 => ?_)
  ·
   refine V_seq ?_
   refine Vr ?_
   refine On 1 [0, 3, 50] ?_
   refine Oc 3 (.tmp 50) 17 (nt ((trkA ts of).rank)) (some 51) hb152_164 rfl ?_
   refine Ose [(0, pt d), (3, pt b1), (52, .bool (decide ((trkA ts of).rank < 1)))] ?_
   refine V_if ((trkA ts of).rank < 1) (by kernel_rfl) (fun hc227 => ?_) (fun hc227 => ?_)
   ·
    refine Vs [(4, .slice none 0 0), (5, nt 8)] ?_
    refine V_ret ?_
    refine X_ret_then ?_
    refine X_ret_block ?_
    refine X_ret_then ?_
    have hE : doS ts of now dk c u = ([], 8, u) := by unfold doS; rw [if_neg hc167, if_neg hc177, if_neg hc195, if_pos hc226, if_pos hc227]
    rw [hE]
    exact X_return (.tuple #[.slice none 0 0, nt 8]) rfl ⟨none, 0, rfl, SlT.nil _ _ _, (fun q h => (inA_none h).elim), ⟨H, F, G, hR, hV, hl, hHr, hFr, hGr, hHF, hHG, hFG, fun q h => (inA_none h).elim, fun q h => (inA_none h).elim, fun q h => (inA_none h).elim⟩, hK0⟩
   refine V_skip ?_
   refine X_then ?_
   refine V_seq ?_
   refine V_draws (acts [14]) none_ [[0, 1, 2, 3, 4, 5, 6, 7, 8, 9, 10, 11, 12, 13, 14, 15, 16, 17, 18]] (by kernel_rfl) (by repeat first | exact (by first | exact sure_body (by rintro _ _ ⟨_, _, h, _⟩; exact ⟨_, h⟩) | exact sure_body (by rintro _ _ ⟨_, _, h, _⟩; exact ⟨_, h⟩)) | refine sure_then ?_ | refine sure_block ?_ | refine sure_join ?_) (by kernel_rfl) ?_
   intro w229 hk228 he230 L hL231
   have hsz232 := Keep.size hk228
   replace hd := hd.k0 hk228
   replace hb1 := hb1.k0 hk228
   replace hb152_164 := hb152_164.k0 hk228
   replace hR := hR.keep hk228 nk
   replace hV := hV.keep hk228 nk
   replace hl := hl.keep hk228 nk
   replace hrep := RepIn.keep hrep hk228 nk
   replace hK0 := hK0.tn hk228
   have qhd := hd
   have qhb1 := hb1
   have qhb152_164 := hb152_164
   have K233 : Keep none_ w229 w229 := Keep.refl _ _
   obtain rfl := List.mem_singleton.1 hL231
   refine Gn [3, 4, 5, 6, 7, 8, 9, 10, 11, 12, 13, 14, 15, 16, 17, 18] [0, 3, 55] ?_
   refine Gc0 33 (.tmp 55) 2 (pt r) (some 56) qhd rfl ?_
   refine Gn [7, 8, 9, 10, 11, 12, 13, 14, 15, 16, 17, 18] [0, 3, 56, 59] ?_
   refine Gc0 32 (.tmp 59) 1 (pt v) (some 60) qhd rfl ?_
   refine Gn [9, 10, 11, 12, 13, 14, 15, 16, 17, 18] [0, 56, 60, 61] ?_
   refine Gc0 3 (.tmp 61) 2 (nt c.n) (some 62) qhb1 rfl ?_
   refine Gn [13, 14, 15, 16, 17, 18] [56, 60, 62, 65] ?_
   refine Gc0 3 (.tmp 65) 4 (nt now) (some 66) qhd rfl ?_
   refine Gk0 (kL 62 #[(.tmp 56), (.tmp 60), (.tmp 62), (.tmp 66)] #[33, 32, 3, 3]) 62 #[pt r, pt v, nt c.n, nt now] (some 67) (cancel_spec H r g ts u.rs F v u.s c.n now _ hR hV hHF) ?_
   rintro _ w236 ⟨A238, cap238, rfl, hA238, ow238, ⟨F239, F242, ho240, ho243, hfr241, hfr244, hdis245, dA246, dA247⟩, hk237⟩
   refine ⟨_, rfl, ?_⟩
   have hsz248 := Keep.size hk237
   replace hd := hd.keep hk237 (fun hs => by rcases hs with hs | hs; (have u0 := hgo _ hs; have u1 := hgl _ hs; omega); (have u0 := hFd _ hs; have u1 := hFlt _ hs; omega))
   replace hb1 := hb1.keep hk237 (fun hs => by rcases hs with hs | hs; (have u0 := hgo _ hs; have u1 := hgl _ hs; omega); (have u0 := hFd _ hs; have u1 := hFlt _ hs; omega))
   replace hb152_164 := hb152_164.keep hk237 (fun hs => by rcases hs with hs | hs; (have u0 := hgo _ hs; have u1 := hgl _ hs; omega); (have u0 := hFd _ hs; have u1 := hFlt _ hs; omega))
   replace hl := hl.keep hk237 (fun q hq hs => by rcases hs with hs | hs; exact (fun q h1 h2 => hHG q h2 h1) q hq (by rw [show q = g from hs]; exact hgH); exact (fun q h1 h2 => hFG q h2 h1) q hq hs)
   replace hrep := RepIn.keep hrep hk237 (fun q hq hs => by rcases hs with hs | hs; exact (fun q h1 h2 => (hDo q h1).2.1 h2) q hq (by rw [show q = g from hs]; exact hgH); exact (fun q h1 h2 => (hDo q h1).2.2.1 h2) q hq hs)
   replace hK0 := Keep.fresh hK0 hk237 (fun i hi hs => by rcases hs with hs | hs; (exact .inl hs); (rcases hFr i hs with h | h; exact .inr <| .inl h; (exfalso; omega)))
   have own250 : ∀ q, F239 q → 0 ≤ q ∧ q ≠ d ∧ q ≠ b1 ∧ q ≠ b152 := fun q hq => by rcases hfr241 q hq with h | h; (have h1 := hHd q h; have h2 := hHlt q h; omega); omega
   have lt249 := Rfr.lt ho240
   have rel251 : ∀ q, F239 q → H q ∨ w.heap.size ≤ q := fun q hq => by rcases hfr241 q hq with h | h; exact hHr q h; exact .inr (by omega)
   have dis252 : ∀ q, F239 q → ¬ G q := fun q h1 h2 => by rcases hfr241 q h1 with h | h; exact hHG q h h2; (have h4 := hGlt q h2; omega)
   have own254 : ∀ q, F242 q → 0 ≤ q ∧ q ≠ d ∧ q ≠ b1 ∧ q ≠ b152 := fun q hq => by rcases hfr244 q hq with h | h; (have h1 := hFd q h; have h2 := hFlt q h; omega); omega
   have lt253 := VotT.lt ho243
   have rel255 : ∀ q, F242 q → F q ∨ w.heap.size ≤ q := fun q hq => by rcases hfr244 q hq with h | h; exact hFr q h; exact .inr (by omega)
   have dis256 : ∀ q, F242 q → ¬ G q := fun q h1 h2 => by rcases hfr244 q h1 with h | h; exact hFG q h h2; (have h4 := hGlt q h2; omega)
   have ltA238 := SlT.lt hA238
   have dis257 : ∀ q, inA A238 q → ¬ G q := fun q h1 h2 => by have h3 := ow238 q h1; have h4 := hGlt q h2; omega
   refine Gs [] [(4, .slice A238 ((canL u.rs c.n).length) cap238), (5, nt (ongE u.rs c.n))] ?_
   refine GI_end ?_
   refine X_then ?_
   refine V_ret ?_
   refine X_ret_block ?_
   refine X_ret_then ?_
   have hE : doS ts of now dk c u = (canL u.rs c.n, ongE u.rs c.n, rwCan u c.n now) := by unfold doS; rw [if_neg hc167, if_neg hc177, if_neg hc195, if_pos hc226, if_neg hc227]
   rw [hE]
   exact X_return (.tuple #[.slice A238 ((canL u.rs c.n).length) cap238, nt (ongE u.rs c.n)]) rfl ⟨A238, cap238, rfl, hA238, (fun q h => by have h1 := ow238 q h; omega), ⟨F239, F242, G, ho240, ho243, hl, rel251, rel255, hGr, hdis245, dis252, dis256, (dA246), (dA247), (dis257)⟩, hK0⟩
  refine V_skip ?_
  refine X_block ?_
  refine X_then ?_
  refine V_seq ?_
  refine Vr ?_
  refine On 1 [0, 3, 70] ?_
  refine Oc 3 (.tmp 70) 17 (nt ((trkA ts of).rank)) (some 71) hb152_164 rfl ?_
  refine Ose [(0, pt d), (3, pt b1), (72, .bool (decide ((trkA ts of).rank < 2)))] ?_
  refine V_if ((trkA ts of).rank < 2) (by kernel_rfl) (fun hc258 => ?_) (fun hc258 => ?_)
  ·
   refine Vs [(4, .slice none 0 0), (5, nt 8)] ?_
   refine V_ret ?_
   refine X_ret_then ?_
   have hE : doS ts of now dk c u = ([], 8, u) := by unfold doS; rw [if_neg hc167, if_neg hc177, if_neg hc195, if_neg hc226, if_pos hc258]
   rw [hE]
   exact X_return (.tuple #[.slice none 0 0, nt 8]) rfl ⟨none, 0, rfl, SlT.nil _ _ _, (fun q h => (inA_none h).elim), ⟨H, F, G, hR, hV, hl, hHr, hFr, hGr, hHF, hHG, hFG, fun q h => (inA_none h).elim, fun q h => (inA_none h).elim, fun q h => (inA_none h).elim⟩, hK0⟩
  refine V_skip ?_
  refine X_then ?_
  refine V_seq ?_
  refine V_draws (acts [18]) none_ [[0, 1, 2, 3, 4, 5, 6, 7, 8, 9, 10, 11, 12, 13, 14, 15, 16, 17, 18, 19, 20, 21, 22]] (by kernel_rfl) (by repeat first | exact (by first | exact sure_body (by rintro _ _ ⟨_, _, h, _⟩; exact ⟨_, h⟩) | exact sure_body (by rintro _ _ ⟨_, _, h, _⟩; exact ⟨_, h⟩)) | refine sure_then ?_ | refine sure_block ?_ | refine sure_join ?_) (by kernel_rfl) ?_
  intro w260 hk259 he261 L hL262
  have hsz263 := Keep.size hk259
  replace hd := hd.k0 hk259
  replace hb1 := hb1.k0 hk259
  replace hb152_164 := hb152_164.k0 hk259
  replace hR := hR.keep hk259 nk
  replace hV := hV.keep hk259 nk
  replace hl := hl.keep hk259 nk
  replace hrep := RepIn.keep hrep hk259 nk
  replace hK0 := hK0.tn hk259
  have qhd := hd
  have qhb1 := hb1
  have qhb152_164 := hb152_164
  have K264 : Keep none_ w260 w260 := Keep.refl _ _
  obtain rfl := List.mem_singleton.1 hL262
  refine Gn [3, 4, 5, 6, 7, 8, 9, 10, 11, 12, 13, 14, 15, 16, 17, 18, 19, 20, 21, 22] [0, 3, 75] ?_
  refine Gc0 33 (.tmp 75) 2 (pt r) (some 76) qhd rfl ?_
  refine Gn [7, 8, 9, 10, 11, 12, 13, 14, 15, 16, 17, 18, 19, 20, 21, 22] [0, 3, 76, 79] ?_
  refine Gc0 31 (.tmp 79) 0 (pt l) (some 80) qhd rfl ?_
  refine Gn [11, 12, 13, 14, 15, 16, 17, 18, 19, 20, 21, 22] [0, 3, 76, 80, 83] ?_
  refine Gc0 32 (.tmp 83) 1 (pt v) (some 84) qhd rfl ?_
  refine Gn [13, 14, 15, 16, 17, 18, 19, 20, 21, 22] [0, 76, 80, 84, 85] ?_
  refine Gc0 3 (.tmp 85) 2 (nt c.n) (some 86) qhb1 rfl ?_
  refine Gn [17, 18, 19, 20, 21, 22] [76, 80, 84, 86, 89] ?_
  refine Gc0 3 (.tmp 89) 4 (nt now) (some 90) qhd rfl ?_
  refine Gk0 (kL 63 #[(.tmp 76), (.tmp 80), (.tmp 84), (.tmp 86), (.tmp 90)] #[33, 31, 32, 3, 3]) 63 #[pt r, pt l, pt v, nt c.n, nt now] (some 91) (kill_spec H r g ts u.rs F v u.s G l u.xs u.cs c.n now _ hR hV hl hHF hHG hFG) ?_
  rintro _ w267 ⟨A269, cap269, rfl, hA269, ow269, ⟨F270, F273, F276, ho271, ho274, ho277, hfr272, hfr275, hfr278, hdis279, hdis280, hdis281, dA282, dA283, dA284⟩, hk268⟩
  refine ⟨_, rfl, ?_⟩
  have hsz285 := Keep.size hk268
  replace hd := hd.keep hk268 (fun hs => by rcases hs with hs | hs | hs; (have u0 := hgo _ hs; have u1 := hgl _ hs; omega); (have u0 := hFd _ hs; have u1 := hFlt _ hs; omega); (have u0 := hGd _ hs; have u1 := hGlt _ hs; omega))
  replace hb1 := hb1.keep hk268 (fun hs => by rcases hs with hs | hs | hs; (have u0 := hgo _ hs; have u1 := hgl _ hs; omega); (have u0 := hFd _ hs; have u1 := hFlt _ hs; omega); (have u0 := hGd _ hs; have u1 := hGlt _ hs; omega))
  replace hb152_164 := hb152_164.keep hk268 (fun hs => by rcases hs with hs | hs | hs; (have u0 := hgo _ hs; have u1 := hgl _ hs; omega); (have u0 := hFd _ hs; have u1 := hFlt _ hs; omega); (have u0 := hGd _ hs; have u1 := hGlt _ hs; omega))
  replace hrep := RepIn.keep hrep hk268 (fun q hq hs => by rcases hs with hs | hs | hs; exact (fun q h1 h2 => (hDo q h1).2.1 h2) q hq (by rw [show q = g from hs]; exact hgH); exact (fun q h1 h2 => (hDo q h1).2.2.1 h2) q hq hs; exact (fun q h1 h2 => (hDo q h1).2.2.2 h2) q hq hs)
  replace hK0 := Keep.fresh hK0 hk268 (fun i hi hs => by rcases hs with hs | hs | hs; (exact .inl hs); (rcases hFr i hs with h | h; exact .inr <| .inl h; (exfalso; omega)); (rcases hGr i hs with h | h; exact .inr <| .inr <| h; (exfalso; omega)))
  have own287 : ∀ q, F270 q → 0 ≤ q ∧ q ≠ d ∧ q ≠ b1 ∧ q ≠ b152 := fun q hq => by rcases hfr272 q hq with h | h; (have h1 := hHd q h; have h2 := hHlt q h; omega); omega
  have lt286 := Rfr.lt ho271
  have rel288 : ∀ q, F270 q → H q ∨ w.heap.size ≤ q := fun q hq => by rcases hfr272 q hq with h | h; exact hHr q h; exact .inr (by omega)
  have own290 : ∀ q, F273 q → 0 ≤ q ∧ q ≠ d ∧ q ≠ b1 ∧ q ≠ b152 := fun q hq => by rcases hfr275 q hq with h | h; (have h1 := hFd q h; have h2 := hFlt q h; omega); omega
  have lt289 := VotT.lt ho274
  have rel291 : ∀ q, F273 q → F q ∨ w.heap.size ≤ q := fun q hq => by rcases hfr275 q hq with h | h; exact hFr q h; exact .inr (by omega)
  have own293 : ∀ q, F276 q → 0 ≤ q ∧ q ≠ d ∧ q ≠ b1 ∧ q ≠ b152 := fun q hq => by rcases hfr278 q hq with h | h; (have h1 := hGd q h; have h2 := hGlt q h; omega); omega
  have lt292 := Led.lt ho277
  have rel294 : ∀ q, F276 q → G q ∨ w.heap.size ≤ q := fun q hq => by rcases hfr278 q hq with h | h; exact hGr q h; exact .inr (by omega)
  have ltA269 := SlT.lt hA269
  refine Gs [] [(4, .slice A269 ((kilL u.xs ts u.rs c.n).length) cap269), (5, nt (ongE u.rs c.n))] ?_
  refine GI_end ?_
  refine X_then ?_
  refine V_ret ?_
  have hE : doS ts of now dk c u = (kilL u.xs ts u.rs c.n, ongE u.rs c.n, rwKil ts u c.n now) := by unfold doS; rw [if_neg hc167, if_neg hc177, if_neg hc195, if_neg hc226, if_neg hc258]
  rw [hE]
  exact X_return (.tuple #[.slice A269 ((kilL u.xs ts u.rs c.n).length) cap269, nt (ongE u.rs c.n)]) rfl ⟨A269, cap269, rfl, hA269, (fun q h => by have h1 := ow269 q h; omega), ⟨F270, F273, F276, ho271, ho274, ho277, rel288, rel291, rel294, hdis279, hdis280, hdis281, (dA282), (dA283), (dA284)⟩, hK0⟩
theorem does_spec (d r g : Nat) (ts : List Trk) (v l : Nat) (of now : Int) : ∀ (f : Nat), f ≤ 3 → ∀ (c : CA), okCA f c = true → DoesAt d r g ts v l of now (doC ts of now f) c
  | 0, _, c, h => does_step d r g ts v l of now _ c (fun h5 => by have := stepC_kids h h5; simp at this) (fun h5 => by have := stepC_kids h h5; simp at this)
  | f + 1, hf, c, h => does_step d r g ts v l of now _ c (fun h5 x hx => does_spec d r g ts v l of now f (by omega) x ((stepC_kids h h5).2.2 x hx)) (fun h5 => ⟨(stepC_kids h h5).2.1, fun x hx u => doC_len f (by omega) x u ((stepC_kids h h5).2.2 x hx)⟩)
end Go.Al

namespace Go.Al
open Go Go.RowKit Go.Proofs
set_option maxRecDepth 10000 in
set_option maxHeartbeats 2000000 in
theorem do_spec (D : Nat → Prop) (c : CA) (r g : Nat) (ts : List Trk) (v l : Nat) (of now : Int) (H F G : Nat → Prop) (u : RW) (w : World) (hrep : RepIn D w c) (hR : Rfr H w r g ts u.rs) (hV : VotT F w v u.s) (hl : Led G w l u.xs u.cs) (hHF : ∀ q, H q → ¬ F q) (hHG : ∀ q, H q → ¬ G q) (hFG : ∀ q, F q → ¬ G q) (hDo : ∀ q, D q → q < w.heap.size ∧ ¬ H q ∧ ¬ F q ∧ ¬ G q) : Calls Tryz.prog 10 #[pt l, pt v, pt r, .agg c.cells.toArray, nt of, nt now] w fun e w' => ∃ A' cap', e = .returned (.tuple #[.slice A' ((doD ts of now c u).1).length cap', nt ((doD ts of now c u).2.1)]) ∧ SlT w' 3 Evt.cells A' cap' ((doD ts of now c u).1) ∧ (∀ q, inA A' q → w.heap.size ≤ q) ∧ (∃ H' F' G', Rfr H' w' r g ts (doD ts of now c u).2.2.rs ∧ VotT F' w' v (doD ts of now c u).2.2.s ∧ Led G' w' l (doD ts of now c u).2.2.xs (doD ts of now c u).2.2.cs ∧ (∀ q, H' q → H q ∨ w.heap.size ≤ q) ∧ (∀ q, F' q → F q ∨ w.heap.size ≤ q) ∧ (∀ q, G' q → G q ∨ w.heap.size ≤ q) ∧ (∀ q, H' q → ¬ F' q) ∧ (∀ q, H' q → ¬ G' q) ∧ (∀ q, F' q → ¬ G' q) ∧ (∀ q, inA A' q → ¬ H' q) ∧ (∀ q, inA A' q → ¬ F' q) ∧ (∀ q, inA A' q → ¬ G' q)) ∧ Keep (fun q => q = g ∨ F q ∨ G q) w w' := by
 have hHlt := Rfr.lt hR
 have hFlt := VotT.lt hV
 have hGlt := Led.lt hl
 have hgH : H g := Rfr.atg hR
 have hHd : ∀ q, H q → 0 ≤ q := fun q _ => Nat.zero_le _
 have hHl0 := hHlt
 have hFd : ∀ q, F q → 0 ≤ q := fun q _ => Nat.zero_le _
 have hFl0 := hFlt
 have hGd : ∀ q, G q → 0 ≤ q := fun q _ => Nat.zero_le _
 have hGl0 := hGlt
 have hgo : ∀ q, only g q → q = g := fun q hq => hq
 have hgl : ∀ q, only g q → q < w.heap.size := fun q hq => by rw [show q = g from hq]; exact hHlt _ hgH
 have hHr : ∀ q, H q → H q ∨ w.heap.size ≤ q := fun _ h => .inl h
 have hFr : ∀ q, F q → F q ∨ w.heap.size ≤ q := fun _ h => .inl h
 have hGr : ∀ q, G q → G q ∨ w.heap.size ≤ q := fun _ h => .inl h
 have hDlt : ∀ q, D q → q < w.heap.size := fun q hq => (hDo q hq).1
 have hK0 : Keep (fun q => q = g ∨ F q ∨ G q) w w := Keep.refl _ _
 have hzhK0 := Keep.size hK0
 refine enterV Tryz.func10 rfl [pt l, pt v, pt r, .agg (CA.cells c).toArray, nt of, nt now] 48 rfl rfl rfl ?_
 refine Vr ?_
 refine OI_box 26 (.tmp 3) (.agg (CA.cells c).toArray) (CA.cells c) (some 9) (by kernel_rfl) (by kernel_rfl) rfl ?_
 intro b1 w1 e1 hb1 k1 z1
 have hsz2 := Keep.size k1
 replace hR := hR.keep k1 nk
 replace hV := hV.keep k1 nk
 replace hl := hl.keep k1 nk
 replace hrep := RepIn.keep hrep k1 nk
 replace hK0 := hK0.tn k1
 have hb1lt := hb1.lt
 refine On 3 [0, 1, 2, 4, 5, 9] ?_
 refine Oe ?_
 refine V_seq ?_
 refine Vr ?_
 refine On 2 [0, 1, 2, 4, 5, 9, 17, 18] ?_
 refine Ok (kL 26 #[(.tmp 17), (.tmp 18)] #[33, 3]) 26 #[pt r, nt of] (some 19) (rtrack_spec H r g ts u.rs of _ hR) ?_
 rintro _ w5 ⟨rfl, hk6⟩
 refine ⟨_, rfl, ?_⟩
 have hsz7 := Keep.size hk6
 replace hb1 := hb1.k0 hk6
 replace hR := hR.keep hk6 nk
 replace hV := hV.keep hk6 nk
 replace hl := hl.keep hk6 nk
 replace hrep := RepIn.keep hrep hk6 nk
 replace hK0 := hK0.tn hk6
 refine On 6 [0, 1, 2, 4, 5, 9, 20, 21] ?_
 refine OI_alloc 80 (.agg (Trk.cells Trk.zero).toArray) (Trk.cells Trk.zero) (some 14) (by kernel_rfl) (by kernel_rfl) (by kernel_rfl) ?_
 intro b8 w8 e8 hb8 k8 z8
 have hsz9 := Keep.size k8
 replace hb1 := hb1.k0 k8
 replace hR := hR.keep k8 nk
 replace hV := hV.keep k8 nk
 replace hl := hl.keep k8 nk
 replace hrep := RepIn.keep hrep k8 nk
 replace hK0 := hK0.tn k8
 have hb8lt := hb8.lt
 refine Otg 80 (.tmp 14) (.tmp 20) 0 (Trk.cells (trkA ts of)) hb8 (Trk.len _) (Trk.one _) ?_
 intro w10 hb8_13 hk11 hz12
 replace hb8_13 : Blk w10 b8 (Trk.cells (trkA ts of)) 80 := (Blk.eqL (Trk.over _ _) hb8_13)
 have hsz14 := Keep.size hk11
 replace hb1 := hb1.k1 hk11
 replace hR := hR.keep hk11 (fun q hq hs => by have hs : q = b8 := hs; have g0 := hHd q hq; have g1 := hHlt q hq; omega)
 replace hV := hV.keep hk11 (fun q hq hs => by have hs : q = b8 := hs; have g0 := hFd q hq; have g1 := hFlt q hq; omega)
 replace hl := hl.keep hk11 (fun q hq hs => by have hs : q = b8 := hs; have g0 := hGd q hq; have g1 := hGlt q hq; omega)
 replace hrep := RepIn.keep hrep hk11 (fun q hq hs => by have hs : q = b8 := hs; have g1 := hDlt q hq; omega)
 replace hK0 := Keep.fr hK0 hk11
 refine On 9 [0, 1, 2, 4, 5, 9, 15] ?_
 refine Oer ?_
 refine Os 3 [(0, pt l), (1, pt v), (2, pt r), (4, nt of), (5, nt now), (9, pt b1), (24, .bool (!((trkO ts of).isSome)))] ?_
 cases hg15 : (!((trkO ts of).isSome))
 ·
  refine OI_eq [(0, pt l), (1, pt v), (2, pt r), (4, nt of), (5, nt now), (9, pt b1), (24, .bool false)] (by first | rfl | rw [hg15]) ?_
  refine On 11 [0, 1, 2, 4, 5, 9, 32] ?_
  refine Oa 26 (.tmp 9) 0 (CA.cells c) (some 33) 4 hb1 (take_all (CA.len _)) (CA.len _) ?_
  refine Ok (kL 27 #[(.tmp 33)] #[26]) 27 #[.agg (CA.cells c).toArray] (some 34) (isC_spec D c _ hrep) ?_
  rintro _ w16 ⟨rfl, hk17⟩
  refine ⟨_, rfl, ?_⟩
  have hsz18 := Keep.size hk17
  replace hb1 := hb1.k0 hk17
  replace hb8_13 := hb8_13.k0 hk17
  replace hR := hR.keep hk17 nk
  replace hV := hV.keep hk17 nk
  replace hl := hl.keep hk17 nk
  replace hrep := RepIn.keep hrep hk17 nk
  replace hK0 := hK0.tn hk17
  refine Ose [(0, pt l), (1, pt v), (2, pt r), (4, nt of), (5, nt now), (9, pt b1), (36, .bool (!(okCA 3 c)))] ?_
  refine V_ifb (!(okCA 3 c)) (by kernel_rfl) (fun hc19 => ?_) (fun hc19 => ?_)
  ·
   refine Vs [(12, .slice none 0 0), (13, nt 1)] ?_
   refine V_ret ?_
   refine X_ret_then ?_
   have hE : doD ts of now c u = ([], 1, u) := if_pos (.inr (by simpa using hc19))
   rw [hE]
   exact X_return (.tuple #[.slice none 0 0, nt 1]) rfl ⟨none, 0, rfl, SlT.nil _ _ _, (fun q h => (inA_none h).elim), ⟨H, F, G, hR, hV, hl, hHr, hFr, hGr, hHF, hHG, hFG, fun q h => (inA_none h).elim, fun q h => (inA_none h).elim, fun q h => (inA_none h).elim⟩, hK0⟩
  refine V_skip ?_
  refine X_then ?_
  refine Vr ?_
  refine On 6 [9, 42] ?_
  refine OI_box 86 (.tmp 42) (.agg #[pt l, pt v, pt r, nt of, nt now]) [pt l, pt v, pt r, nt of, nt now] (some 43) (by kernel_rfl) (by kernel_rfl) (by kernel_rfl) ?_
  intro b20 w20 e20 hb20 k20 z20
  have hsz21 := Keep.size k20
  replace hb1 := hb1.k0 k20
  replace hb8_13 := hb8_13.k0 k20
  replace hR := hR.keep k20 nk
  replace hV := hV.keep k20 nk
  replace hl := hl.keep k20 nk
  replace hrep := RepIn.keep hrep k20 nk
  replace hK0 := hK0.tn k20
  have hb20lt := hb20.lt
  refine Oa 26 (.tmp 9) 0 (CA.cells c) (some 44) 4 hb1 (take_all (CA.len _)) (CA.len _) ?_
  have hokc : okCA 3 c = true := by simpa using hc19
  have hDo2 : ∀ q, D q → q < w20.heap.size ∧ ¬ H q ∧ ¬ F q ∧ ¬ G q := fun q hq => ⟨by have h1 := hDlt q hq; omega, (hDo q hq).2⟩
  have hdo2 : ¬ H b20 ∧ ¬ F b20 ∧ ¬ G b20 := ⟨fun h => by have h1 := hHl0 _ h; omega, fun h => by have h1 := hFl0 _ h; omega, fun h => by have h1 := hGl0 _ h; omega⟩
  refine Ok (kL 28 #[(.tmp 43), (.tmp 44)] #[84, 26]) 28 #[pt b20, .agg (CA.cells c).toArray] (some 45) (does_spec b20 r g ts v l of now 3 (by omega) c hokc D H F G u _ hrep hb20 hR hV hl hHF hHG hFG hDo2 hdo2) ?_
  rintro _ w24 ⟨A26, cap26, rfl, hA26, ow26, ⟨F27, F30, F33, ho28, ho31, ho34, hfr29, hfr32, hfr35, hdis36, hdis37, hdis38, dA39, dA40, dA41⟩, hk25⟩
  refine ⟨_, rfl, ?_⟩
  have hsz42 := Keep.size hk25
  replace hb1 := hb1.keep hk25 (fun hs => by rcases hs with hs | hs | hs; (have u0 := hgo _ hs; have u1 := hgl _ hs; omega); (have u0 := hFd _ hs; have u1 := hFlt _ hs; omega); (have u0 := hGd _ hs; have u1 := hGlt _ hs; omega))
  replace hb8_13 := hb8_13.keep hk25 (fun hs => by rcases hs with hs | hs | hs; (have u0 := hgo _ hs; have u1 := hgl _ hs; omega); (have u0 := hFd _ hs; have u1 := hFlt _ hs; omega); (have u0 := hGd _ hs; have u1 := hGlt _ hs; omega))
  replace hb20 := hb20.keep hk25 (fun hs => by rcases hs with hs | hs | hs; (have u0 := hgo _ hs; have u1 := hgl _ hs; omega); (have u0 := hFd _ hs; have u1 := hFlt _ hs; omega); (have u0 := hGd _ hs; have u1 := hGlt _ hs; omega))
  replace hrep := RepIn.keep hrep hk25 (fun q hq hs => by rcases hs with hs | hs | hs; exact (fun q h1 h2 => (hDo q h1).2.1 h2) q hq (by rw [show q = g from hs]; exact hgH); exact (fun q h1 h2 => (hDo q h1).2.2.1 h2) q hq hs; exact (fun q h1 h2 => (hDo q h1).2.2.2 h2) q hq hs)
  replace hK0 := Keep.fresh hK0 hk25 (fun i hi hs => by rcases hs with hs | hs | hs; (exact .inl hs); (rcases hFr i hs with h | h; exact .inr <| .inl h; (exfalso; omega)); (rcases hGr i hs with h | h; exact .inr <| .inr <| h; (exfalso; omega)))
  have own44 : ∀ q, F27 q → 0 ≤ q ∧ q ≠ b1 ∧ q ≠ b8 ∧ q ≠ b20 := fun q hq => by rcases hfr29 q hq with h | h; (have h1 := hHd q h; have h2 := hHlt q h; omega); omega
  have lt43 := Rfr.lt ho28
  have rel45 : ∀ q, F27 q → H q ∨ w.heap.size ≤ q := fun q hq => by rcases hfr29 q hq with h | h; exact hHr q h; exact .inr (by omega)
  have own47 : ∀ q, F30 q → 0 ≤ q ∧ q ≠ b1 ∧ q ≠ b8 ∧ q ≠ b20 := fun q hq => by rcases hfr32 q hq with h | h; (have h1 := hFd q h; have h2 := hFlt q h; omega); omega
  have lt46 := VotT.lt ho31
  have rel48 : ∀ q, F30 q → F q ∨ w.heap.size ≤ q := fun q hq => by rcases hfr32 q hq with h | h; exact hFr q h; exact .inr (by omega)
  have own50 : ∀ q, F33 q → 0 ≤ q ∧ q ≠ b1 ∧ q ≠ b8 ∧ q ≠ b20 := fun q hq => by rcases hfr35 q hq with h | h; (have h1 := hGd q h; have h2 := hGlt q h; omega); omega
  have lt49 := Led.lt ho34
  have rel51 : ∀ q, F33 q → G q ∨ w.heap.size ≤ q := fun q hq => by rcases hfr35 q hq with h | h; exact hGr q h; exact .inr (by omega)
  have ltA26 := SlT.lt hA26
  refine Ose [(12, .slice A26 (((doC ts of now 3 c u).1).length) cap26), (13, nt ((doC ts of now 3 c u).2.1))] ?_
  refine V_ret ?_
  have hE : doD ts of now c u = doC ts of now 3 c u := if_neg (by rintro (h | h); (rw [h] at hg15; simp at hg15); (rw [h] at hokc; cases hokc))
  rw [hE]
  exact X_return (.tuple #[.slice A26 (((doC ts of now 3 c u).1).length) cap26, nt ((doC ts of now 3 c u).2.1)]) rfl ⟨A26, cap26, rfl, hA26, (fun q h => by have h1 := ow26 q h; omega), ⟨F27, F30, F33, ho28, ho31, ho34, rel45, rel48, rel51, hdis36, hdis37, hdis38, (dA39), (dA40), (dA41)⟩, hK0⟩
 refine OI_eq [(0, pt l), (1, pt v), (2, pt r), (4, nt of), (5, nt now), (9, pt b1), (24, .bool true)] (by first | rfl | rw [hg15]) ?_
 refine Ose [(0, pt l), (1, pt v), (2, pt r), (4, nt of), (5, nt now), (9, pt b1), (36, .bool true)] ?_
 refine V_true rfl ?_
 refine Vs [(12, .slice none 0 0), (13, nt 1)] ?_
 refine V_ret ?_
 refine X_ret_then ?_
 have hE : doD ts of now c u = ([], 1, u) := if_pos (.inl (by simpa using hg15))
 rw [hE]
 exact X_return (.tuple #[.slice none 0 0, nt 1]) rfl ⟨none, 0, rfl, SlT.nil _ _ _, (fun q h => (inA_none h).elim), ⟨H, F, G, hR, hV, hl, hHr, hFr, hGr, hHF, hHG, hFG, fun q h => (inA_none h).elim, fun q h => (inA_none h).elim, fun q h => (inA_none h).elim⟩, hK0⟩
end Go.Al

namespace Go.Al
open Go Go.RowKit Go.Proofs
set_option maxRecDepth 10000 in
set_option maxHeartbeats 2000000 in
theorem do_nil1 (v : Nat) (H : Nat → Prop) (r g : Nat) (ts : List Trk) (rs : List Rfm) (c : CA) (of now : Int) (w : World) (hR : Rfr H w r g ts rs) : Calls Tryz.prog 10 #[.pointer none, pt v, pt r, .agg c.cells.toArray, nt of, nt now] w (rk_ w (.tuple #[.slice none 0 0, nt 1])) := by
 have hHlt := Rfr.lt hR
 have hrH := Rfr.at_ hR
 have hgH := Rfr.atg hR
 have hrlt := hHlt _ hrH
 have hglt := hHlt _ hgH
 have hin := Rfr.inn hR
 obtain ⟨A, cap, hr, hA, hAo, hrg⟩ := Rfr.parts hR
 have hAlt := SlT.lt hA
 have hAr : ∀ q, inA A q → q ≠ r ∧ q ≠ g ∧ q < w.heap.size := fun q hq => ⟨(hAo q hq).2.1, (hAo q hq).2.2, hAlt q hq⟩
 have hgo : ∀ q, only g q → q ≠ r ∧ q = g := fun q hq => ⟨fun e => hrg (e.symm.trans hq), hq⟩
 have hgl : ∀ q, only g q → q < w.heap.size := fun q hq => by rw [show q = g from hq]; exact hglt
 have hHo : ∀ q, H q → 0 ≤ q := fun q _ => Nat.zero_le q
 have htl := hin.tl
 have hrl := hin.rl
 have hK0 : Keep none_ w w := Keep.refl _ _
 have hzhK0 := Keep.size hK0
 refine enterV Tryz.func10 rfl [.pointer none, pt v, pt r, .agg (CA.cells c).toArray, nt of, nt now] 48 rfl rfl rfl ?_
 refine Vr ?_
 refine OI_box 26 (.tmp 3) (.agg (CA.cells c).toArray) (CA.cells c) (some 9) (by kernel_rfl) (by kernel_rfl) rfl ?_
 intro b1 w1 e1 hb1 k1 z1
 have hsz2 := Keep.size k1
 replace hr := hr.k0 k1
 replace hA := hA.keep0 k1
 replace hR := hR.keep k1 nk
 replace hK0 := hK0.tn k1
 have hb1lt := hb1.lt
 refine On 3 [0, 1, 2, 4, 5, 9] ?_
 refine Oe ?_
 refine V_seq ?_
 refine Vr ?_
 refine On 2 [0, 1, 2, 4, 5, 9, 17, 18] ?_
 refine Ok (kL 26 #[(.tmp 17), (.tmp 18)] #[33, 3]) 26 #[pt r, nt of] (some 19) (rtrack_spec H r g ts rs of _ hR) ?_
 rintro _ w5 ⟨rfl, hk6⟩
 refine ⟨_, rfl, ?_⟩
 have hsz7 := Keep.size hk6
 replace hr := hr.k0 hk6
 replace hb1 := hb1.k0 hk6
 replace hA := hA.keep0 hk6
 replace hR := hR.keep hk6 nk
 replace hK0 := hK0.tn hk6
 refine On 6 [0, 1, 2, 4, 5, 9, 20, 21] ?_
 refine OI_alloc 80 (.agg (Trk.cells Trk.zero).toArray) (Trk.cells Trk.zero) (some 14) (by kernel_rfl) (by kernel_rfl) (by kernel_rfl) ?_
 intro b8 w8 e8 hb8 k8 z8
 have hsz9 := Keep.size k8
 replace hr := hr.k0 k8
 replace hb1 := hb1.k0 k8
 replace hA := hA.keep0 k8
 replace hR := hR.keep k8 nk
 replace hK0 := hK0.tn k8
 have hb8lt := hb8.lt
 refine Otg 80 (.tmp 14) (.tmp 20) 0 (Trk.cells (trkA ts of)) hb8 (Trk.len _) (Trk.one _) ?_
 intro w10 hb8_13 hk11 hz12
 replace hb8_13 : Blk w10 b8 (Trk.cells (trkA ts of)) 80 := (Blk.eqL (Trk.over _ _) hb8_13)
 have hsz14 := Keep.size hk11
 replace hr := hr.k1 hk11
 replace hb1 := hb1.k1 hk11
 replace hA := hA.keep hk11 (fun q hq hs => by have hs : q = b8 := hs; have g0 := hAr q hq; have g1 := hAlt q hq; omega)
 replace hR := hR.keep hk11 (fun q hq hs => by have hs : q = b8 := hs; have g0 := hHo q hq; have g1 := hHlt q hq; omega)
 replace hK0 := Keep.fr hK0 hk11
 refine On 9 [0, 1, 2, 4, 5, 9, 15] ?_
 refine Oer ?_
 refine Os 3 [(0, .pointer none), (1, pt v), (2, pt r), (4, nt of), (5, nt now), (9, pt b1), (24, .bool (!((trkO ts of).isSome)))] ?_
 cases hg15 : (!((trkO ts of).isSome))
 ·
  refine OI_eq [(0, .pointer none), (1, pt v), (2, pt r), (4, nt of), (5, nt now), (9, pt b1), (24, .bool false)] (by first | rfl | rw [hg15]) ?_
  refine Ose [(0, .pointer none), (1, pt v), (2, pt r), (4, nt of), (5, nt now), (9, pt b1), (36, .bool true)] ?_
  refine V_true rfl ?_
  refine Vs [(12, .slice none 0 0), (13, nt 1)] ?_
  refine V_ret ?_
  refine X_ret_then ?_
  exact X_return (.tuple #[.slice none 0 0, nt 1]) rfl ⟨rfl, hK0⟩
 refine OI_eq [(0, .pointer none), (1, pt v), (2, pt r), (4, nt of), (5, nt now), (9, pt b1), (24, .bool true)] (by first | rfl | rw [hg15]) ?_
 refine Ose [(0, .pointer none), (1, pt v), (2, pt r), (4, nt of), (5, nt now), (9, pt b1), (36, .bool true)] ?_
 refine V_true rfl ?_
 refine Vs [(12, .slice none 0 0), (13, nt 1)] ?_
 refine V_ret ?_
 refine X_ret_then ?_
 exact X_return (.tuple #[.slice none 0 0, nt 1]) rfl ⟨rfl, hK0⟩
set_option maxRecDepth 10000 in
set_option maxHeartbeats 2000000 in
theorem do_nil2 (l : Nat) (H : Nat → Prop) (r g : Nat) (ts : List Trk) (rs : List Rfm) (c : CA) (of now : Int) (w : World) (hR : Rfr H w r g ts rs) : Calls Tryz.prog 10 #[pt l, .pointer none, pt r, .agg c.cells.toArray, nt of, nt now] w (rk_ w (.tuple #[.slice none 0 0, nt 1])) := by
 have hHlt := Rfr.lt hR
 have hrH := Rfr.at_ hR
 have hgH := Rfr.atg hR
 have hrlt := hHlt _ hrH
 have hglt := hHlt _ hgH
 have hin := Rfr.inn hR
 obtain ⟨A, cap, hr, hA, hAo, hrg⟩ := Rfr.parts hR
 have hAlt := SlT.lt hA
 have hAr : ∀ q, inA A q → q ≠ r ∧ q ≠ g ∧ q < w.heap.size := fun q hq => ⟨(hAo q hq).2.1, (hAo q hq).2.2, hAlt q hq⟩
 have hgo : ∀ q, only g q → q ≠ r ∧ q = g := fun q hq => ⟨fun e => hrg (e.symm.trans hq), hq⟩
 have hgl : ∀ q, only g q → q < w.heap.size := fun q hq => by rw [show q = g from hq]; exact hglt
 have hHo : ∀ q, H q → 0 ≤ q := fun q _ => Nat.zero_le q
 have htl := hin.tl
 have hrl := hin.rl
 have hK0 : Keep none_ w w := Keep.refl _ _
 have hzhK0 := Keep.size hK0
 refine enterV Tryz.func10 rfl [pt l, .pointer none, pt r, .agg (CA.cells c).toArray, nt of, nt now] 48 rfl rfl rfl ?_
 refine Vr ?_
 refine OI_box 26 (.tmp 3) (.agg (CA.cells c).toArray) (CA.cells c) (some 9) (by kernel_rfl) (by kernel_rfl) rfl ?_
 intro b1 w1 e1 hb1 k1 z1
 have hsz2 := Keep.size k1
 replace hr := hr.k0 k1
 replace hA := hA.keep0 k1
 replace hR := hR.keep k1 nk
 replace hK0 := hK0.tn k1
 have hb1lt := hb1.lt
 refine On 3 [0, 1, 2, 4, 5, 9] ?_
 refine Oe ?_
 refine V_seq ?_
 refine Vr ?_
 refine On 2 [0, 1, 2, 4, 5, 9, 17, 18] ?_
 refine Ok (kL 26 #[(.tmp 17), (.tmp 18)] #[33, 3]) 26 #[pt r, nt of] (some 19) (rtrack_spec H r g ts rs of _ hR) ?_
 rintro _ w5 ⟨rfl, hk6⟩
 refine ⟨_, rfl, ?_⟩
 have hsz7 := Keep.size hk6
 replace hr := hr.k0 hk6
 replace hb1 := hb1.k0 hk6
 replace hA := hA.keep0 hk6
 replace hR := hR.keep hk6 nk
 replace hK0 := hK0.tn hk6
 refine On 6 [0, 1, 2, 4, 5, 9, 20, 21] ?_
 refine OI_alloc 80 (.agg (Trk.cells Trk.zero).toArray) (Trk.cells Trk.zero) (some 14) (by kernel_rfl) (by kernel_rfl) (by kernel_rfl) ?_
 intro b8 w8 e8 hb8 k8 z8
 have hsz9 := Keep.size k8
 replace hr := hr.k0 k8
 replace hb1 := hb1.k0 k8
 replace hA := hA.keep0 k8
 replace hR := hR.keep k8 nk
 replace hK0 := hK0.tn k8
 have hb8lt := hb8.lt
 refine Otg 80 (.tmp 14) (.tmp 20) 0 (Trk.cells (trkA ts of)) hb8 (Trk.len _) (Trk.one _) ?_
 intro w10 hb8_13 hk11 hz12
 replace hb8_13 : Blk w10 b8 (Trk.cells (trkA ts of)) 80 := (Blk.eqL (Trk.over _ _) hb8_13)
 have hsz14 := Keep.size hk11
 replace hr := hr.k1 hk11
 replace hb1 := hb1.k1 hk11
 replace hA := hA.keep hk11 (fun q hq hs => by have hs : q = b8 := hs; have g0 := hAr q hq; have g1 := hAlt q hq; omega)
 replace hR := hR.keep hk11 (fun q hq hs => by have hs : q = b8 := hs; have g0 := hHo q hq; have g1 := hHlt q hq; omega)
 replace hK0 := Keep.fr hK0 hk11
 refine On 9 [0, 1, 2, 4, 5, 9, 15] ?_
 refine Oer ?_
 refine Os 3 [(0, pt l), (1, .pointer none), (2, pt r), (4, nt of), (5, nt now), (9, pt b1), (24, .bool (!((trkO ts of).isSome)))] ?_
 cases hg15 : (!((trkO ts of).isSome))
 ·
  refine OI_eq [(0, pt l), (1, .pointer none), (2, pt r), (4, nt of), (5, nt now), (9, pt b1), (24, .bool false)] (by first | rfl | rw [hg15]) ?_
  refine Ose [(0, pt l), (1, .pointer none), (2, pt r), (4, nt of), (5, nt now), (9, pt b1), (36, .bool true)] ?_
  refine V_true rfl ?_
  refine Vs [(12, .slice none 0 0), (13, nt 1)] ?_
  refine V_ret ?_
  refine X_ret_then ?_
  exact X_return (.tuple #[.slice none 0 0, nt 1]) rfl ⟨rfl, hK0⟩
 refine OI_eq [(0, pt l), (1, .pointer none), (2, pt r), (4, nt of), (5, nt now), (9, pt b1), (24, .bool true)] (by first | rfl | rw [hg15]) ?_
 refine Ose [(0, pt l), (1, .pointer none), (2, pt r), (4, nt of), (5, nt now), (9, pt b1), (36, .bool true)] ?_
 refine V_true rfl ?_
 refine Vs [(12, .slice none 0 0), (13, nt 1)] ?_
 refine V_ret ?_
 refine X_ret_then ?_
 exact X_return (.tuple #[.slice none 0 0, nt 1]) rfl ⟨rfl, hK0⟩
set_option maxRecDepth 10000 in
set_option maxHeartbeats 2000000 in
theorem do_nil3 (l v : Nat) (c : CA) (of now : Int) (w : World) : Calls Tryz.prog 10 #[pt l, pt v, .pointer none, .agg c.cells.toArray, nt of, nt now] w (rk_ w (.tuple #[.slice none 0 0, nt 1])) := by
 have hK0 : Keep none_ w w := Keep.refl _ _
 have hzhK0 := Keep.size hK0
 refine enterV Tryz.func10 rfl [pt l, pt v, .pointer none, .agg (CA.cells c).toArray, nt of, nt now] 48 rfl rfl rfl ?_
 refine Vr ?_
 refine OI_box 26 (.tmp 3) (.agg (CA.cells c).toArray) (CA.cells c) (some 9) (by kernel_rfl) (by kernel_rfl) rfl ?_
 intro b1 w1 e1 hb1 k1 z1
 have hsz2 := Keep.size k1
 replace hK0 := hK0.tn k1
 have hb1lt := hb1.lt
 refine On 3 [0, 1, 2, 4, 5, 9] ?_
 refine Oe ?_
 refine V_seq ?_
 refine Vr ?_
 refine On 2 [0, 1, 2, 4, 5, 9, 17, 18] ?_
 refine Ok (kL 26 #[(.tmp 17), (.tmp 18)] #[33, 3]) 26 #[.pointer none, nt of] (some 19) (rtrack_nil of _) ?_
 rintro _ w5 ⟨rfl, hk6⟩
 refine ⟨_, rfl, ?_⟩
 have hsz7 := Keep.size hk6
 replace hb1 := hb1.k0 hk6
 replace hK0 := hK0.tn hk6
 refine On 6 [0, 1, 2, 4, 5, 9, 20, 21] ?_
 refine OI_alloc 80 (.agg (Trk.cells Trk.zero).toArray) (Trk.cells Trk.zero) (some 14) (by kernel_rfl) (by kernel_rfl) (by kernel_rfl) ?_
 intro b8 w8 e8 hb8 k8 z8
 have hsz9 := Keep.size k8
 replace hb1 := hb1.k0 k8
 replace hK0 := hK0.tn k8
 have hb8lt := hb8.lt
 refine Otg 80 (.tmp 14) (.tmp 20) 0 (Trk.cells Trk.zero) hb8 (Trk.len _) (Trk.one _) ?_
 intro w10 hb8_13 hk11 hz12
 replace hb8_13 : Blk w10 b8 (Trk.cells Trk.zero) 80 := (Blk.eqL (Trk.over _ _) hb8_13)
 have hsz14 := Keep.size hk11
 replace hb1 := hb1.k1 hk11
 replace hK0 := Keep.fr hK0 hk11
 refine On 9 [0, 1, 2, 4, 5, 9, 15] ?_
 refine Oer ?_
 refine Ose [(0, pt l), (1, pt v), (2, .pointer none), (4, nt of), (5, nt now), (9, pt b1), (36, .bool true)] ?_
 refine V_true rfl ?_
 refine Vs [(12, .slice none 0 0), (13, nt 1)] ?_
 refine V_ret ?_
 refine X_ret_then ?_
 exact X_return (.tuple #[.slice none 0 0, nt 1]) rfl ⟨rfl, hK0⟩
end Go.Al

namespace Go.Al
open Go Go.RowKit Go.Proofs
def actT0 : Trk := ⟨1, 20, 2, 10, 3, 1, ⟨1, 500000000, 500000000, 1, 0⟩, ⟨1, 0, 0, 1, 0⟩, 5, 0⟩
def actT1 : Trk := { actT0 with rank := 1, cap := 50 }
def actT2 : Trk := { actT0 with rank := 2, cap := 5000 }
def actTs : List Trk := [actT0, actT1, actT2]
theorem actTs_ok : okTs actTs := ⟨by decide, by decide, by decide⟩
def frA (fs : List Int) (i : Nat) : Int := match fs[i]? with | some x => IntKind.i64.wrap (100 + bAnd x 1023) | none => 100
def frL (fs : List Int) (i : Nat) : List Int := (List.range i).map (frA fs)
theorem frL_len (fs : List Int) (i : Nat) : (frL fs i).length = i := by simp [frL]
theorem frL_step (fs : List Int) (i : Nat) : frL fs (i + 1) = frL fs i ++ [frA fs i] := by simp [frL, List.range_succ]
theorem frA_some {fs : List Int} {i : Nat} {x : Int} (h : fs[i]? = some x) : frA fs i = IntKind.i64.wrap (100 + bAnd x 1023) := by unfold frA; rw [h]
theorem frA_none {fs : List Int} {i : Nat} (h : fs.length ≤ i) : frA fs i = 100 := by unfold frA; rw [List.getElem?_eq_none h]
theorem frA_bnd (fs : List Int) (i : Nat) : 100 ≤ frA fs i ∧ frA fs i ≤ 1123 := by
  unfold frA
  split
  · rename_i x _
    have h := bAnd_le x 1023 (by decide)
    have h2 : bAnd x ((1023 : Nat) : Int) = bAnd x 1023 := rfl
    rw [h2] at h
    rw [wrap64_id (by omega) (by omega)]; omega
  · omega
def frX (fs : List Int) : List Acc := newX (frL fs 10) 10
theorem frX_eq (fs : List Int) : frX fs = [⟨frA fs 0, 0⟩, ⟨frA fs 1, 0⟩, ⟨frA fs 2, 0⟩, ⟨frA fs 3, 0⟩, ⟨frA fs 4, 0⟩, ⟨frA fs 5, 0⟩, ⟨frA fs 6, 0⟩, ⟨frA fs 7, 0⟩, ⟨frA fs 8, 0⟩, ⟨frA fs 9, 0⟩] := rfl
theorem frL_ok (fs : List Int) : okP (frL fs 10) := by
  refine ⟨by rw [frL_len]; omega, fun x hx => ?_, ?_⟩
  · obtain ⟨i, _, rfl⟩ := List.mem_map.1 hx
    have := frA_bnd fs i; omega
  · show tot (frX fs) ≤ _
    rw [frX_eq]
    have h := frA_bnd fs
    have h0 := h 0; have h1 := h 1; have h2 := h 2; have h3 := h 3; have h4 := h 4; have h5 := h 5; have h6 := h 6; have h7 := h 7; have h8 := h 8; have h9 := h 9
    simp only [tot]; omega
def acQ (fs : List Int) : RW := ⟨frX fs, [], VS.zero, []⟩
theorem new_okA (A : Option Addr) (cap : Nat) (fs : List Int) (w : World) (hA : ArgT w 1 intc A cap fs) (hn : fs.length ≤ 100000) (hok : okP fs) : Calls Tryz.prog 17 #[.slice A fs.length cap] w fun e w' => ∃ l F, e = .returned (.tuple #[pt l, nt 0]) ∧ Led F w' l (newX fs 10) [] ∧ Keep none_ w w' ∧ (∀ q, F q → w.heap.size ≤ q) :=
  (new_spec6 A cap fs w hA hn).mono (by
    rintro e w' (⟨_, h⟩ | ⟨h, _⟩)
    · exact h
    · exact absurd hok h)
theorem SlT.ofE {α : Type} {w : World} {sz cap : Nat} {f : α → List Value} {A : Option Addr} {xs ys : List α} (h : SlT w sz f A cap xs) (e : xs = ys) : SlT w sz f A cap ys := e ▸ h
set_option maxRecDepth 10000 in
theorem flat_spec (a : Int) (w : World) : Calls Tryz.prog 46 #[nt a] w fun e w' => e = .returned (.agg (Crv.cells ⟨1, a, a, 1, 0⟩).toArray) ∧ Keep none_ w w' := by
 have hK0 : Keep none_ w w := Keep.refl _ _
 have hzhK0 := Keep.size hK0
 refine enterM Tryz.func46 rfl [nt a] 6 rfl rfl rfl ?_
 refine V_pick [(0, nt a)] rfl ?_
 refine Vr ?_
 refine OI_alloc 78 (.agg #[nt 0, nt 0, nt 0, nt 0, nt 0]) [nt 0, nt 0, nt 0, nt 0, nt 0] (some 2) (by kernel_rfl) (by kernel_rfl) (by kernel_rfl) ?_
 intro b1 w1 e1 hb1 k1 z1
 have hsz2 := Keep.size k1
 replace hK0 := hK0.tn k1
 have hb1lt := hb1.lt
 refine Oer ?_
 refine Os 3 [(2, pt b1), (5, .agg (Crv.cells (Crv.mk 1 a a 1 0)).toArray)] ?_
 refine Otg 78 (.tmp 2) (.tmp 5) 0 (Crv.cells (Crv.mk 1 a a 1 0)) hb1 (Crv.len _) (Crv.one _) ?_
 intro w3 hb1_6 hk4 hz5
 replace hb1_6 : Blk w3 b1 (Crv.cells (Crv.mk 1 a a 1 0)) 78 := (by rwa [over_whole (by rw [Crv.len]; rfl)] at hb1_6)
 have hsz7 := Keep.size hk4
 replace hK0 := Keep.fr hK0 hk4
 refine Oe ?_
 refine V_ret ?_
 exact leave0 (.agg (Crv.cells ⟨1, a, a, 1, 0⟩).toArray) (.inl rfl) (res_agg1 (m := 5) rfl rfl (by kernel_rfl) hb1_6 rfl) ⟨rfl, hK0⟩
set_option maxRecDepth 10000 in
set_option maxHeartbeats 2000000 in
theorem tracks_spec (w : World) : Calls Tryz.prog 20 #[] w fun e w' => ∃ A cap, e = .returned (.slice A 3 cap) ∧ SlT w' 18 Trk.cells A cap actTs ∧ (∀ q, inA A q → w.heap.size ≤ q) ∧ Keep none_ w w' := by
 have hK0 : Keep none_ w w := Keep.refl _ _
 have hzhK0 := Keep.size hK0
 refine enterV Tryz.func20 rfl [] 17 rfl rfl rfl ?_
 refine Vr ?_
 refine On 1 [] ?_
 refine Oer ?_
 refine Ok (kL 46 #[(.const (nt 500000000))] #[3]) 46 #[nt 500000000] (some 4) (flat_spec 500000000 _) ?_
 rintro _ w1 ⟨rfl, hk2⟩
 refine ⟨_, rfl, ?_⟩
 have hsz3 := Keep.size hk2
 replace hK0 := hK0.tn hk2
 refine Ok (kL 46 #[(.const (nt 0))] #[3]) 46 #[nt 0] (some 5) (flat_spec 0 _) ?_
 rintro _ w4 ⟨rfl, hk5⟩
 refine ⟨_, rfl, ?_⟩
 have hsz6 := Keep.size hk5
 replace hK0 := hK0.tn hk5
 refine Os 3 [(6, .agg (Trk.cells actT0).toArray)] ?_
 refine OI_alloc 80 (.agg (Trk.cells Trk.zero).toArray) (Trk.cells Trk.zero) (some 1) (by kernel_rfl) (by kernel_rfl) (by kernel_rfl) ?_
 intro b7 w7 e7 hb7 k7 z7
 have hsz8 := Keep.size k7
 replace hK0 := hK0.tn k7
 have hb7lt := hb7.lt
 refine Otg 80 (.tmp 1) (.tmp 6) 0 (Trk.cells actT0) hb7 (Trk.len _) (Trk.one _) ?_
 intro w9 hb7_12 hk10 hz11
 replace hb7_12 : Blk w9 b7 (Trk.cells actT0) 80 := (Blk.eqL (Trk.over _ _) hb7_12)
 have hsz13 := Keep.size hk10
 replace hK0 := Keep.fr hK0 hk10
 refine Oe ?_
 refine V_seq ?_
 refine Vd (acts [2, 3, 4, 5]) none_ [[2, 3, 0, 4, 1, 5], [3, 2, 0, 4, 1, 5]] ?_
 intro w15 hk14 he16 L hL17
 have hsz18 := Keep.size hk14
 replace hb7_12 := hb7_12.k0 hk14
 replace hK0 := hK0.tn hk14
 have qhb7_12 := hb7_12
 have K19 : Keep none_ w15 w15 := Keep.refl _ _
 simp only [List.mem_cons, List.not_mem_nil, or_false] at hL17
 rcases hL17 with rfl | rfl
 ·
  refine GI_alloc 80 (.agg (Trk.cells Trk.zero).toArray) (Trk.cells Trk.zero) (some 2) (by kernel_rfl) (by kernel_rfl) K19 (by kernel_rfl) (by kernel_rfl) ?_
  intro b20 w20 e20 hb20 k20 z20 K21
  have hsz22 := Keep.size k20
  replace hb7_12 := hb7_12.k0 k20
  replace hK0 := hK0.tn k20
  have hb20lt := hb20.lt
  refine GI_alloc 80 (.agg (Trk.cells Trk.zero).toArray) (Trk.cells Trk.zero) (some 3) (by kernel_rfl) (by kernel_rfl) K21 (by kernel_rfl) (by kernel_rfl) ?_
  intro b23 w23 e23 hb23 k23 z23 K24
  have hsz25 := Keep.size k23
  replace hb7_12 := hb7_12.k0 k23
  replace hb20 := hb20.k0 k23
  replace hK0 := hK0.tn k23
  have hb23lt := hb23.lt
  refine Ga 80 (.tmp 1) 0 (Trk.cells actT0) (some 7) 18 qhb7_12 id (take_all (Trk.len _)) (Trk.len _) ?_
  refine GI_set (m := 18) (kd := true) 80 (.tmp 2) (.tmp 7) 0 (.agg (Trk.cells actT0).toArray) (Trk.cells actT0) none (by kernel_rfl) (by kernel_rfl) (by kernel_rfl) (by kernel_rfl) hb20 (by kernel_rfl) rfl (Trk.len _) (Nat.le_of_ble_eq_true (by kernel_rfl)) (Trk.one _) K24 (fun hh => absurd hh (by omega)) ?_
  intro w26 hb20_29 hk27 hz28 K30
  replace hb20_29 : Blk w26 b20 (Trk.cells actT0) 80 := (Blk.eqL (Trk.over _ _) hb20_29)
  have hsz31 := Keep.size hk27
  replace hb7_12 := hb7_12.k1 hk27
  replace hb23 := hb23.k1 hk27
  replace hK0 := Keep.fr hK0 hk27
  refine Ga 80 (.tmp 1) 0 (Trk.cells actT0) (some 8) 18 qhb7_12 id (take_all (Trk.len _)) (Trk.len _) ?_
  refine GI_final 5 (by kernel_rfl) (by kernel_rfl) ?_
  refine Otg 80 (.tmp 3) (.tmp 8) 0 (Trk.cells actT0) hb23 (Trk.len _) (Trk.one _) ?_
  intro w32 hb23_35 hk33 hz34
  replace hb23_35 : Blk w32 b23 (Trk.cells actT0) 80 := (Blk.eqL (Trk.over _ _) hb23_35)
  have hsz36 := Keep.size hk33
  replace hb7_12 := hb7_12.k1 hk33
  replace hb20_29 := hb20_29.k1 hk33
  replace hK0 := Keep.fr hK0 hk33
  refine Oer ?_
  refine On 1 [1, 2, 3, 9] ?_
  refine Ot 3 (.tmp 9) (.const (Value.int IntKind.i64 1)) 17 (nt 1) hb20_29 ?_
  intro w37 hb20_40 hk38 hz39
  replace hb20_40 : Blk w37 b20 (Trk.cells { actT0 with rank := 1 }) 80 := (Blk.eqL (by kernel_rfl) hb20_40)
  have hsz41 := Keep.size hk38
  replace hb7_12 := hb7_12.k1 hk38
  replace hb23_35 := hb23_35.k1 hk38
  replace hK0 := Keep.fr hK0 hk38
  refine On 3 [1, 2, 3, 10] ?_
  refine Ot 3 (.tmp 10) (.const (Value.int IntKind.i64 50)) 16 (nt 50) hb20_40 ?_
  intro w42 hb20_45 hk43 hz44
  replace hb20_45 : Blk w42 b20 (Trk.cells { actT0 with rank := 1, cap := 50 }) 80 := (Blk.eqL (by kernel_rfl) hb20_45)
  have hsz46 := Keep.size hk43
  replace hb7_12 := hb7_12.k1 hk43
  replace hb23_35 := hb23_35.k1 hk43
  replace hK0 := Keep.fr hK0 hk43
  refine Oer ?_
  refine On 1 [1, 2, 3, 11] ?_
  refine Ot 3 (.tmp 11) (.const (Value.int IntKind.i64 2)) 17 (nt 2) hb23_35 ?_
  intro w47 hb23_50 hk48 hz49
  replace hb23_50 : Blk w47 b23 (Trk.cells { actT0 with rank := 2 }) 80 := (Blk.eqL (by kernel_rfl) hb23_50)
  have hsz51 := Keep.size hk48
  replace hb7_12 := hb7_12.k1 hk48
  replace hb20_45 := hb20_45.k1 hk48
  replace hK0 := Keep.fr hK0 hk48
  refine On 3 [1, 2, 3, 12] ?_
  refine Ot 3 (.tmp 12) (.const (Value.int IntKind.i64 5000)) 16 (nt 5000) hb23_50 ?_
  intro w52 hb23_55 hk53 hz54
  replace hb23_55 : Blk w52 b23 (Trk.cells { actT0 with rank := 2, cap := 5000 }) 80 := (Blk.eqL (by kernel_rfl) hb23_55)
  have hsz56 := Keep.size hk53
  replace hb7_12 := hb7_12.k1 hk53
  replace hb20_45 := hb20_45.k1 hk53
  replace hK0 := Keep.fr hK0 hk53
  refine Oer ?_
  refine Oa 80 (.tmp 1) 0 (Trk.cells actT0) (some 13) 18 hb7_12 (take_all (Trk.len _)) (Trk.len _) ?_
  refine Oa 80 (.tmp 2) 0 (Trk.cells { actT0 with rank := 1, cap := 50 }) (some 14) 18 hb20_45 (take_all (Trk.len _)) (Trk.len _) ?_
  refine Oa 80 (.tmp 3) 0 (Trk.cells { actT0 with rank := 2, cap := 5000 }) (some 15) 18 hb23_55 (take_all (Trk.len _)) (Trk.len _) ?_
  refine OI_slit (E := 80) (zv := .agg #[nt 0, nt 0, nt 0, nt 0, nt 0, nt 0, nt 0, nt 0, nt 0, nt 0, nt 0, nt 0, nt 0, nt 0, nt 0, nt 0, nt 0, nt 0]) (sz := 18) (by_ := 144) 67 3 #[(0, (Operand.tmp 13)), (1, (Operand.tmp 14)), (2, (Operand.tmp 15))] [.agg (Trk.cells actT0).toArray, .agg (Trk.cells { actT0 with rank := 1, cap := 50 }).toArray, .agg (Trk.cells { actT0 with rank := 2, cap := 5000 }).toArray] ([actT0, { actT0 with rank := 1, cap := 50 }, { actT0 with rank := 2, cap := 5000 }].flatMap Trk.cells) (some 16) (by kernel_rfl) (by kernel_rfl) (by kernel_rfl) (by omega) rfl (by omega) (by intro v hv; simp only [List.mem_cons, List.not_mem_nil, or_false] at hv; rcases hv with rfl | rfl | rfl <;> rfl) (by kernel_rfl) rfl ?_
  intro b57 w57 e57 hb57 k57 z57
  have hsz58 := Keep.size k57
  replace hb7_12 := hb7_12.k0 k57
  replace hb20_45 := hb20_45.k0 k57
  replace hb23_55 := hb23_55.k0 k57
  replace hK0 := hK0.tn k57
  have hb57lt := hb57.lt
  refine Ose [(0, sl_ b57 0 3 3)] ?_
  refine V_ret ?_
  exact X_return _ rfl ⟨_, _, rfl, slt_blk (xs := actTs) hb57 Trk.len rfl, (fun q h => by have h3 := inA_some h; omega), hK0⟩
 ·
  refine GI_alloc 80 (.agg (Trk.cells Trk.zero).toArray) (Trk.cells Trk.zero) (some 3) (by kernel_rfl) (by kernel_rfl) K19 (by kernel_rfl) (by kernel_rfl) ?_
  intro b59 w59 e59 hb59 k59 z59 K60
  have hsz61 := Keep.size k59
  replace hb7_12 := hb7_12.k0 k59
  replace hK0 := hK0.tn k59
  have hb59lt := hb59.lt
  refine GI_alloc 80 (.agg (Trk.cells Trk.zero).toArray) (Trk.cells Trk.zero) (some 2) (by kernel_rfl) (by kernel_rfl) K60 (by kernel_rfl) (by kernel_rfl) ?_
  intro b62 w62 e62 hb62 k62 z62 K63
  have hsz64 := Keep.size k62
  replace hb7_12 := hb7_12.k0 k62
  replace hb59 := hb59.k0 k62
  replace hK0 := hK0.tn k62
  have hb62lt := hb62.lt
  refine Ga 80 (.tmp 1) 0 (Trk.cells actT0) (some 7) 18 qhb7_12 id (take_all (Trk.len _)) (Trk.len _) ?_
  refine GI_set (m := 18) (kd := true) 80 (.tmp 2) (.tmp 7) 0 (.agg (Trk.cells actT0).toArray) (Trk.cells actT0) none (by kernel_rfl) (by kernel_rfl) (by kernel_rfl) (by kernel_rfl) hb62 (by kernel_rfl) rfl (Trk.len _) (Nat.le_of_ble_eq_true (by kernel_rfl)) (Trk.one _) K63 (fun hh => absurd hh (by omega)) ?_
  intro w65 hb62_68 hk66 hz67 K69
  replace hb62_68 : Blk w65 b62 (Trk.cells actT0) 80 := (Blk.eqL (Trk.over _ _) hb62_68)
  have hsz70 := Keep.size hk66
  replace hb7_12 := hb7_12.k1 hk66
  replace hb59 := hb59.k1 hk66
  replace hK0 := Keep.fr hK0 hk66
  refine Ga 80 (.tmp 1) 0 (Trk.cells actT0) (some 8) 18 qhb7_12 id (take_all (Trk.len _)) (Trk.len _) ?_
  refine GI_final 5 (by kernel_rfl) (by kernel_rfl) ?_
  refine Otg 80 (.tmp 3) (.tmp 8) 0 (Trk.cells actT0) hb59 (Trk.len _) (Trk.one _) ?_
  intro w71 hb59_74 hk72 hz73
  replace hb59_74 : Blk w71 b59 (Trk.cells actT0) 80 := (Blk.eqL (Trk.over _ _) hb59_74)
  have hsz75 := Keep.size hk72
  replace hb7_12 := hb7_12.k1 hk72
  replace hb62_68 := hb62_68.k1 hk72
  replace hK0 := Keep.fr hK0 hk72
  refine Oer ?_
  refine On 1 [1, 2, 3, 9] ?_
  refine Ot 3 (.tmp 9) (.const (Value.int IntKind.i64 1)) 17 (nt 1) hb62_68 ?_
  intro w76 hb62_79 hk77 hz78
  replace hb62_79 : Blk w76 b62 (Trk.cells { actT0 with rank := 1 }) 80 := (Blk.eqL (by kernel_rfl) hb62_79)
  have hsz80 := Keep.size hk77
  replace hb7_12 := hb7_12.k1 hk77
  replace hb59_74 := hb59_74.k1 hk77
  replace hK0 := Keep.fr hK0 hk77
  refine On 3 [1, 2, 3, 10] ?_
  refine Ot 3 (.tmp 10) (.const (Value.int IntKind.i64 50)) 16 (nt 50) hb62_79 ?_
  intro w81 hb62_84 hk82 hz83
  replace hb62_84 : Blk w81 b62 (Trk.cells { actT0 with rank := 1, cap := 50 }) 80 := (Blk.eqL (by kernel_rfl) hb62_84)
  have hsz85 := Keep.size hk82
  replace hb7_12 := hb7_12.k1 hk82
  replace hb59_74 := hb59_74.k1 hk82
  replace hK0 := Keep.fr hK0 hk82
  refine Oer ?_
  refine On 1 [1, 2, 3, 11] ?_
  refine Ot 3 (.tmp 11) (.const (Value.int IntKind.i64 2)) 17 (nt 2) hb59_74 ?_
  intro w86 hb59_89 hk87 hz88
  replace hb59_89 : Blk w86 b59 (Trk.cells { actT0 with rank := 2 }) 80 := (Blk.eqL (by kernel_rfl) hb59_89)
  have hsz90 := Keep.size hk87
  replace hb7_12 := hb7_12.k1 hk87
  replace hb62_84 := hb62_84.k1 hk87
  replace hK0 := Keep.fr hK0 hk87
  refine On 3 [1, 2, 3, 12] ?_
  refine Ot 3 (.tmp 12) (.const (Value.int IntKind.i64 5000)) 16 (nt 5000) hb59_89 ?_
  intro w91 hb59_94 hk92 hz93
  replace hb59_94 : Blk w91 b59 (Trk.cells { actT0 with rank := 2, cap := 5000 }) 80 := (Blk.eqL (by kernel_rfl) hb59_94)
  have hsz95 := Keep.size hk92
  replace hb7_12 := hb7_12.k1 hk92
  replace hb62_84 := hb62_84.k1 hk92
  replace hK0 := Keep.fr hK0 hk92
  refine Oer ?_
  refine Oa 80 (.tmp 1) 0 (Trk.cells actT0) (some 13) 18 hb7_12 (take_all (Trk.len _)) (Trk.len _) ?_
  refine Oa 80 (.tmp 2) 0 (Trk.cells { actT0 with rank := 1, cap := 50 }) (some 14) 18 hb62_84 (take_all (Trk.len _)) (Trk.len _) ?_
  refine Oa 80 (.tmp 3) 0 (Trk.cells { actT0 with rank := 2, cap := 5000 }) (some 15) 18 hb59_94 (take_all (Trk.len _)) (Trk.len _) ?_
  refine OI_slit (E := 80) (zv := .agg #[nt 0, nt 0, nt 0, nt 0, nt 0, nt 0, nt 0, nt 0, nt 0, nt 0, nt 0, nt 0, nt 0, nt 0, nt 0, nt 0, nt 0, nt 0]) (sz := 18) (by_ := 144) 67 3 #[(0, (Operand.tmp 13)), (1, (Operand.tmp 14)), (2, (Operand.tmp 15))] [.agg (Trk.cells actT0).toArray, .agg (Trk.cells { actT0 with rank := 1, cap := 50 }).toArray, .agg (Trk.cells { actT0 with rank := 2, cap := 5000 }).toArray] ([actT0, { actT0 with rank := 1, cap := 50 }, { actT0 with rank := 2, cap := 5000 }].flatMap Trk.cells) (some 16) (by kernel_rfl) (by kernel_rfl) (by kernel_rfl) (by omega) rfl (by omega) (by intro v hv; simp only [List.mem_cons, List.not_mem_nil, or_false] at hv; rcases hv with rfl | rfl | rfl <;> rfl) (by kernel_rfl) rfl ?_
  intro b96 w96 e96 hb96 k96 z96
  have hsz97 := Keep.size k96
  replace hb7_12 := hb7_12.k0 k96
  replace hb59_94 := hb59_94.k0 k96
  replace hb62_84 := hb62_84.k0 k96
  replace hK0 := hK0.tn k96
  have hb96lt := hb96.lt
  refine Ose [(0, sl_ b96 0 3 3)] ?_
  refine V_ret ?_
  exact X_return _ rfl ⟨_, _, rfl, slt_blk (xs := actTs) hb96 Trk.len rfl, (fun q h => by have h3 := inA_some h; omega), hK0⟩
end Go.Al

namespace Go.Al
open Go Go.RowKit Go.Proofs
set_option maxRecDepth 10000 in
set_option maxHeartbeats 2000000 in
theorem begin0 (A : Option Addr) (cap : Nat) (fs : List Int) (w : World) (hA0 : ArgT w 1 intc A cap fs) (hn : fs.length ≤ 100000) : Calls Tryz.prog 9 #[.slice A fs.length cap, nt 0] w fun e w' => ∃ b r g v l H F G xv yv zv, e = .returned (pt b) ∧ Blk w' b [pt l, pt v, pt r, .pointer xv, .pointer yv, .pointer zv] 38 ∧ Rfr H w' r g actTs [] ∧ VotT F w' v VS.zero ∧ Led G w' l (frX fs) [] ∧ Keep none_ w w' ∧ w.heap.size ≤ b ∧ (∀ q, H q → w.heap.size ≤ q ∧ q ≠ b) ∧ (∀ q, F q → w.heap.size ≤ q ∧ q ≠ b) ∧ (∀ q, G q → w.heap.size ≤ q ∧ q ≠ b) ∧ (∀ q, H q → ¬ F q) ∧ (∀ q, H q → ¬ G q) ∧ (∀ q, F q → ¬ G q) := by
 have hA := hA0
 have hK0 : Keep none_ w w := Keep.refl _ _
 have hzhK0 := Keep.size hK0
 refine enterV Tryz.func9 rfl [.slice A fs.length cap, nt 0] 132 rfl rfl rfl ?_
 refine Vr ?_
 refine On 1 [0, 1] ?_
 refine Oer ?_
 refine On 1 [0, 1, 5] ?_
 refine Oe ?_
 refine V_seq ?_
 refine Vs [(0, .slice A fs.length cap), (1, nt 0), (5, .slice none 0 0), (6, nt 0)] ?_
 refine V_block ?_
 refine V_pick [(0, .slice A fs.length cap), (1, nt 0), (5, .slice none 0 0), (6, nt 0)] rfl ?_
 refine V_loop (fun k wI e => ∃ i : Nat, ∃ A2 : Option Addr, ∃ cap2 : Nat, ∃ ms : List Int, (k + i = 10) ∧ (i ≤ 10) ∧ (ms = frL fs i) ∧ (SlT wI 1 intc A2 cap2 ms) ∧ (∀ q, inA A2 q → w.heap.size ≤ q) ∧ Keep none_ w wI ∧ e = [(0, .slice A fs.length cap), (1, nt 0), (5, .slice A2 ms.length cap2), (6, nt (i : Int))]) 10 ⟨0, none, 0, [], by omega, by omega, rfl, SlT.nil _ _ _, fun q h => (inA_none h).elim, Keep.refl _ _, rfl⟩ ?_
 rintro k2 w1 _ ⟨i, A2, cap2, ms, hki, hi10, hms, hA2, ow2, hk3, rfl⟩
 have hsz4 := Keep.size hk3
 replace hA := ArgT.keep0 hA hk3
 replace hK0 := hK0.tn hk3
 have hzhk3 := Keep.size hk3
 have lt2 := SlT.lt hA2
 have hml : ms.length = i := by rw [hms, frL_len]
 refine V_seq ?_
 refine Vs [(0, .slice A fs.length cap), (1, nt 0), (5, .slice A2 ms.length cap2), (6, nt (i : Int)), (18, .bool (decide ((i : Int) < 10)))] ?_
 refine V_if ((i : Int) < 10) (by kernel_rfl) (fun hc5 => ?_) (fun hc5 => ?_)
 ·
  refine V_skip ?_
  refine X_then ?_
  refine V_seq ?_
  refine V_block ?_
  refine Vr ?_
  refine Os 1 [(0, .slice A fs.length cap), (1, nt 0), (6, nt (i : Int)), (21, .slice A2 ms.length cap2)] ?_
  refine OI_slit (E := 3) (zv := nt 0) (sz := 1) (by_ := 8) 49 1 #[(0, (Operand.const (Value.int IntKind.i64 100)))] [nt 100] [nt 100] (some 22) (by kernel_rfl) (by kernel_rfl) (by kernel_rfl) (by omega) rfl (by omega) (by intro v hv; simp only [List.mem_cons, List.not_mem_nil, or_false] at hv; rcases hv with rfl <;> rfl) (by kernel_rfl) rfl ?_
  intro b6 w6 e6 hb6 k6 z6
  have hsz7 := Keep.size k6
  replace hA := ArgT.keep0 hA k6
  replace hA2 := hA2.keep0 k6
  replace hK0 := hK0.tn k6
  replace hk3 := hk3.tn k6
  have hb6lt := hb6.lt
  refine OI_append (t := 49) (at2 := 49) (E := 3) (E2 := 3) (sz := 1) (by_ := 8) (zv := nt 0) (m := ms.length) (k := 1) (.tmp 21) (.tmp 22) (.slice A2 ms.length cap2) (sl_ b6 0 1 1) (some 23) (by kernel_rfl) (by kernel_rfl) (by kernel_rfl) (by kernel_rfl) (by kernel_rfl) (by kernel_rfl) (by kernel_rfl) (SlT.slr hA2) (slr_one hb6 (intc_len 100)) (intc_one 100) (by first | omega | (simp only [List.length_nil]; omega)) (by omega) (by first | omega | (simp only [List.length_nil]; omega)) (by omega) ?_
  intro vv9 w8 hap
  obtain ⟨A8, cap8, rfl, hA8, hk8, own8x⟩ := app_one (f := intc) (xs := ms) (x := 100) (A := A2) (cap := cap2) hap (fun x _ => intc_len x) (intc_len _)
  have own8 : ∀ q, inA A8 q → w.heap.size ≤ q := fun q hq => by rcases own8x q hq with h | h; exact ow2 q h; (show w.heap.size ≤ q; omega)
  have hsz9 := Keep.size hk8
  replace hA := ArgT.keep hA hk8 hA0 (fun k hk hs => by have h1 := ow2 k hs; have h2 := lt2 k hs; omega)
  replace hK0 := Keep.fresh hK0 hk8 (by intro i hi hs; first | exact hs | (exfalso; have h1 := ow2 i hs; have h2 := lt2 i hs; omega) | (have h1 := ow2 i hs; have h2 := lt2 i hs; show _ ∨ _; omega))
  replace hk3 := Keep.fresh hk3 hk8 (by intro i hi hs; first | exact hs | (exfalso; have h1 := ow2 i hs; have h2 := lt2 i hs; omega) | (have h1 := ow2 i hs; have h2 := lt2 i hs; show _ ∨ _; omega))
  have lt8 := SlT.lt hA8
  refine On 4 [0, 1, 5, 6] ?_
  refine Oer ?_
  refine Ose [(0, .slice A fs.length cap), (1, nt 0), (5, .slice A8 ((ms ++ [100]).length) cap8), (6, nt (i : Int)), (27, .bool (decide ((i : Int) < (fs.length : Int))))] ?_
  refine V_if ((i : Int) < (fs.length : Int)) (by kernel_rfl) (fun hc10 => ?_) (fun hc10 => ?_)
  ·
   have hapl : (ms ++ [100]).length = i + 1 := by rw [List.length_append, hml]; rfl
   refine V_region ?_
   refine On 4 [0, 1, 5, 6, 28, 29, 30, 31] ?_
   obtain ⟨b11, o11, L11, rfl, hat11⟩ := ArgT.open_ hA (by first | omega | (simp only [List.length_map]; omega) | (simp; done) | (simp; omega))
   have hb11lt0 := ArgT.lt hA0 (by first | omega | (simp only [List.length_map]; omega) | (simp; done) | (simp; omega))
   have hb11lt := hat11.blk.lt
   refine Oi (b := b11) (o := o11) (len := fs.length) (cap := cap) (j := i) (some 32) 49 (.tmp 30) (.tmp 31) 3 1 8 .i64 ?_
   obtain ⟨x12, hx13⟩ := exAt (xs := fs) (i := i)
   refine OI_cellR 3 (.tmp 32) (o11 + i * 1) (nt x12) (some 33) (by kernel_rfl) (by kernel_rfl) hat11.blk (m := 1) (by kernel_rfl) (AtR.cell0 hat11 (es_at hx13) rfl) ?_
   refine Os 8 [(0, sl_ b11 o11 fs.length cap), (1, nt 0), (5, .slice A8 ((ms ++ [100]).length) cap8), (6, nt (i : Int)), (28, .slice A8 ((ms ++ [100]).length) cap8), (29, nt (i : Int)), (35, nt (IntKind.i64.wrap (100 + (bAnd x12 1023))))] ?_
   obtain ⟨b14, o14, L14, T14, rfl, hat14⟩ := SlT.opn hA8
   have hb14lt := hat14.blk.lt
   have hob15 := own8 b14 ⟨_, rfl, rfl⟩
   have hob16 := lt8 b14 ⟨_, rfl, rfl⟩
   refine Oi (b := b14) (o := o14) (len := (ms ++ [100]).length) (cap := cap8) (j := i) (some 36) 49 (.tmp 28) (.tmp 29) 3 1 8 .i64 ?_
   obtain ⟨x17, hx18⟩ := exAt (xs := ms ++ [100]) (i := i)
   refine Ts1 (IntKind.i64.wrap (100 + (bAnd x12 1023)) : Int) 0 (nt (IntKind.i64.wrap (100 + (bAnd x12 1023)))) hat14 hx18 (by simp [intc, over]) ?_
   intro w19 hat23 hk21 hz22 hlhx24 hx24
   have hsz25 := Keep.size hk21
   replace hat11 := hat11.keep hk21 (by show ¬ (_ = _); omega)
   replace hK0 := Keep.fr hK0 hk21
   replace hk3 := Keep.fr hk3 hk21
   refine Op_ [(0, sl_ b11 o11 fs.length cap), (1, nt 0), (5, sl_ b14 o14 ((ms ++ [100]).length) cap8), (6, nt (i : Int))] ?_
   refine Oq (u := sl_ b14 o14 ((ms ++ [100]).length) cap8) (v := sl_ b14 o14 (((ms ++ [100]).set i (IntKind.i64.wrap (100 + (bAnd x12 1023)))).length) cap8) 5 (by rw [List.length_set]) ?_
   refine OI_end rfl ?_
   refine X_block ?_
   refine X_then ?_
   refine V_region ?_
   have hw26 : IntKind.i64.wrap ((i : Int) + 1) = ((i + 1 : Nat) : Int) := wrp
   refine Os 2 [(0, sl_ b11 o11 fs.length cap), (1, nt 0), (5, sl_ b14 o14 (((ms ++ [100]).set i (IntKind.i64.wrap (100 + (bAnd x12 1023)))).length) cap8), (20, nt (IntKind.i64.wrap ((i : Int) + 1)))] ?_
   refine Oq (u := nt (IntKind.i64.wrap ((i : Int) + 1))) (v := nt ((i + 1 : Nat) : Int)) 20 (by rw [hw26]) ?_
   refine Os 3 [(0, sl_ b11 o11 fs.length cap), (1, nt 0), (5, sl_ b14 o14 (((ms ++ [100]).set i (IntKind.i64.wrap (100 + (bAnd x12 1023)))).length) cap8), (6, nt ((i + 1 : Nat) : Int))] ?_
   refine OI_end rfl ?_
   exact V_again (k2 - 1) (by omega) [(0, sl_ b11 o11 fs.length cap), (1, nt 0), (5, sl_ b14 o14 (((ms ++ [100]).set i (IntKind.i64.wrap (100 + (bAnd x12 1023)))).length) cap8), (6, nt ((i + 1 : Nat) : Int))] rfl ⟨i + 1, (some ⟨b14, o14, none⟩), cap8, (ms ++ [100]).set i (IntKind.i64.wrap (100 + (bAnd x12 1023))), by omega, by omega, by rw [frL_step, ← hms, frA_some hx13, ← hml]; simp, At.slt hat23, (fun q h => by have h3 := inA_some h; omega), hk3, rfl⟩
  have hapl : (ms ++ [100]).length = i + 1 := by rw [List.length_append, hml]; rfl
  refine V_skip ?_
  refine X_block ?_
  refine X_then ?_
  refine V_region ?_
  have hw27 : IntKind.i64.wrap ((i : Int) + 1) = ((i + 1 : Nat) : Int) := wrp
  refine Os 2 [(0, .slice A fs.length cap), (1, nt 0), (5, .slice A8 ((ms ++ [100]).length) cap8), (20, nt (IntKind.i64.wrap ((i : Int) + 1)))] ?_
  refine Oq (u := nt (IntKind.i64.wrap ((i : Int) + 1))) (v := nt ((i + 1 : Nat) : Int)) 20 (by rw [hw27]) ?_
  refine Os 3 [(0, .slice A fs.length cap), (1, nt 0), (5, .slice A8 ((ms ++ [100]).length) cap8), (6, nt ((i + 1 : Nat) : Int))] ?_
  refine OI_end rfl ?_
  exact V_again (k2 - 1) (by omega) [(0, .slice A fs.length cap), (1, nt 0), (5, .slice A8 ((ms ++ [100]).length) cap8), (6, nt ((i + 1 : Nat) : Int))] rfl ⟨i + 1, A8, cap8, ms ++ [100], by omega, by omega, by rw [frL_step, ← hms, frA_none (by omega)], hA8, own8, hk3, rfl⟩
 refine V_exit ?_
 refine X_exit_then ?_
 refine X_exit_then ?_
 refine X_exit_here ?_
 refine X_then ?_
 refine Vr ?_
 refine On 1 [1, 5, 38] ?_
 have hie : i = 10 := by omega
 replace hms : ms = frL fs 10 := by rw [hms, hie]
 refine Ok (kL 17 #[(.tmp 38)] #[49]) 17 #[.slice A2 ms.length cap2] (some 39) (new_okA A2 cap2 ms _ (SlT.arg hA2) (by omega) (by rw [hms]; exact frL_ok fs)) ?_
 rintro _ w28 ⟨l30, F31, rfl, ho32, hk29, hge33⟩
 refine ⟨_, rfl, ?_⟩
 have hsz34 := Keep.size hk29
 replace hA2 := hA2.keep0 hk29
 replace hK0 := hK0.tn hk29
 replace ho32 : Led F31 w28 l30 (frX fs) [] := by rw [hms] at ho32; exact ho32
 have own35 : ∀ q, F31 q → w1.heap.size ≤ q := fun q hq => by have h1 := hge33 q hq; omega
 have lt36 := Led.lt ho32
 have dis37 : ∀ q, F31 q → ¬ inA A2 q := fun q h1 h2 => by have h3 := hge33 q h1; have h4 := lt2 q h2; omega
 have hl30lt : l30 < w28.heap.size := Led.lt ho32 _ (Led.at_ ho32)
 have hl30ge := hge33 _ (Led.at_ ho32)
 refine On 7 [1, 5, 7, 8] ?_
 refine Oer ?_
 refine On 1 [1, 7, 8, 43] ?_
 refine Ok (kL 18 #[(.tmp 43)] #[49]) 18 #[.slice A2 ms.length cap2] (some 44) (rnew6_weak A2 cap2 ms _ (SlT.arg hA2) (by omega)) ?_
 rintro _ w38 ⟨pv40, n41, rfl, hk39⟩
 refine ⟨_, rfl, ?_⟩
 have hsz42 := Keep.size hk39
 replace hA2 := hA2.keep0 hk39
 replace hK0 := hK0.tn hk39
 replace ho32 := ho32.keep hk39 nk
 refine On 7 [1, 7, 8, 9] ?_
 refine Oer ?_
 refine Ok (kL 20 #[] #[]) 20 #[] (some 48) (tracks_spec _) ?_
 rintro _ w43 ⟨A45, cap45, rfl, hA45, ow45, hk44⟩
 refine ⟨_, rfl, ?_⟩
 have hsz46 := Keep.size hk44
 replace hA2 := hA2.keep0 hk44
 replace hK0 := hK0.tn hk44
 replace ho32 := ho32.keep hk44 nk
 have lt45 := SlT.lt hA45
 have dis47 : ∀ q, inA A45 q → ¬ F31 q := fun q h1 h2 => by have h3 := ow45 q h1; have h4 := lt36 q h2; omega
 refine Ok (kL 19 #[(.tmp 48)] #[67]) 19 #[.slice A45 3 cap45] (some 49) (rnw_spec A45 cap45 actTs _ hA45 actTs_ok) ?_
 rintro _ w48 ⟨r50, gg54, H51, rfl, hR52, hk49, hge53⟩
 refine ⟨_, rfl, ?_⟩
 have hsz55 := Keep.size hk49
 replace hA2 := hA2.keep0 hk49
 replace hA45 := hA45.keep0 hk49
 replace hK0 := hK0.tn hk49
 replace ho32 := ho32.keep hk49 nk
 have own56 : ∀ q, H51 q → w43.heap.size ≤ q := fun q hq => by have h1 := hge53 q hq; omega
 have lt57 := Rfr.lt hR52
 have dis58 : ∀ q, H51 q → ¬ inA A2 q := fun q h1 h2 => by have h3 := hge53 q h1; have h4 := lt2 q h2; omega
 have dis59 : ∀ q, H51 q → ¬ inA A45 q := fun q h1 h2 => by have h3 := hge53 q h1; have h4 := lt45 q h2; omega
 have dis60 : ∀ q, H51 q → ¬ F31 q := fun q h1 h2 => by have h3 := hge53 q h1; have h4 := lt36 q h2; omega
 have hr50lt : r50 < w48.heap.size := Rfr.lt hR52 _ (Rfr.at_ hR52)
 have hr50ge := hge53 _ (Rfr.at_ hR52)
 refine On 7 [1, 7, 8, 9, 11, 12] ?_
 refine Oer ?_
 refine Ok (kL 20 #[] #[]) 20 #[] (some 53) (tracks_spec _) ?_
 rintro _ w61 ⟨A63, cap63, rfl, hA63, ow63, hk62⟩
 refine ⟨_, rfl, ?_⟩
 have hsz64 := Keep.size hk62
 replace hA2 := hA2.keep0 hk62
 replace hA45 := hA45.keep0 hk62
 replace hK0 := hK0.tn hk62
 replace ho32 := ho32.keep hk62 nk
 replace hR52 := hR52.keep hk62 nk
 have lt63 := SlT.lt hA63
 have dis65 : ∀ q, inA A63 q → ¬ F31 q := fun q h1 h2 => by have h3 := ow63 q h1; have h4 := lt36 q h2; omega
 have dis66 : ∀ q, inA A63 q → ¬ H51 q := fun q h1 h2 => by have h3 := ow63 q h1; have h4 := lt57 q h2; omega
 refine Ok (kL 21 #[(.tmp 53)] #[67]) 21 #[.slice A63 3 cap63] (some 54) (rnew12_weak A63 cap63 actTs _ hA63 actTs_ok) ?_
 rintro _ w67 ⟨pv69, rfl, hk68⟩
 refine ⟨_, rfl, ?_⟩
 have hsz70 := Keep.size hk68
 replace hA2 := hA2.keep0 hk68
 replace hA45 := hA45.keep0 hk68
 replace hA63 := hA63.keep0 hk68
 replace hK0 := hK0.tn hk68
 replace ho32 := ho32.keep hk68 nk
 replace hR52 := hR52.keep hk68 nk
 refine On 7 [1, 7, 8, 9, 11, 12, 13] ?_
 refine Oer ?_
 refine On 1 [1, 7, 8, 9, 11, 12, 13, 57] ?_
 refine Ok (kL 22 #[] #[]) 22 #[] (some 58) (new_votT _) ?_
 rintro _ w73 ⟨g75, F76, rfl, ho77, hk74, hge78⟩
 refine ⟨_, rfl, ?_⟩
 have hsz79 := Keep.size hk74
 replace hA2 := hA2.keep0 hk74
 replace hA45 := hA45.keep0 hk74
 replace hA63 := hA63.keep0 hk74
 replace hK0 := hK0.tn hk74
 replace ho32 := ho32.keep hk74 nk
 replace hR52 := hR52.keep hk74 nk
 have own80 : ∀ q, F76 q → w67.heap.size ≤ q := fun q hq => by have h1 := hge78 q hq; omega
 have lt81 := VotT.lt ho77
 have dis82 : ∀ q, F76 q → ¬ inA A2 q := fun q h1 h2 => by have h3 := hge78 q h1; have h4 := lt2 q h2; omega
 have dis83 : ∀ q, F76 q → ¬ inA A45 q := fun q h1 h2 => by have h3 := hge78 q h1; have h4 := lt45 q h2; omega
 have dis84 : ∀ q, F76 q → ¬ inA A63 q := fun q h1 h2 => by have h3 := hge78 q h1; have h4 := lt63 q h2; omega
 have dis85 : ∀ q, F76 q → ¬ F31 q := fun q h1 h2 => by have h3 := hge78 q h1; have h4 := lt36 q h2; omega
 have dis86 : ∀ q, F76 q → ¬ H51 q := fun q h1 h2 => by have h3 := hge78 q h1; have h4 := lt57 q h2; omega
 have hg75lt : g75 < w73.heap.size := VotT.lt ho77 _ (VotT.at_ ho77)
 have hg75ge := hge78 _ (VotT.at_ ho77)
 refine On 4 [1, 7, 8, 11, 12, 13, 57, 58, 59, 60] ?_
 refine Ok (kL 23 #[] #[]) 23 #[] (some 61) (rnew11_weak _) ?_
 rintro _ w87 ⟨pv89, rfl, hk88⟩
 refine ⟨_, rfl, ?_⟩
 have hsz90 := Keep.size hk88
 replace hA2 := hA2.keep0 hk88
 replace hA45 := hA45.keep0 hk88
 replace hA63 := hA63.keep0 hk88
 replace hK0 := hK0.tn hk88
 replace ho32 := ho32.keep hk88 nk
 replace hR52 := hR52.keep hk88 nk
 replace ho77 := ho77.keep hk88 nk
 refine On 7 [1, 7, 8, 11, 12, 63] ?_
 refine OI_box 38 (.tmp 63) (.agg #[pt l30, pt g75, pt r50, .pointer pv40, .pointer pv89, .pointer pv69]) [pt l30, pt g75, pt r50, .pointer pv40, .pointer pv89, .pointer pv69] (some 64) (by kernel_rfl) (by kernel_rfl) (by kernel_rfl) ?_
 intro b91 w91 e91 hb91 k91 z91
 have hsz92 := Keep.size k91
 replace hA2 := hA2.keep0 k91
 replace hA45 := hA45.keep0 k91
 replace hA63 := hA63.keep0 k91
 replace hK0 := hK0.tn k91
 replace ho32 := ho32.keep k91 nk
 replace hR52 := hR52.keep k91 nk
 replace ho77 := ho77.keep k91 nk
 have hb91lt := hb91.lt
 refine On 9 [1, 7, 8, 11, 12, 15] ?_
 refine Oe ?_
 refine V_seq ?_
 refine Vr ?_
 refine On 18 [1, 15, 79, 82] ?_
 refine Oc 32 (.tmp 82) 1 (pt g75) (some 83) hb91 rfl ?_
 refine Ose [(1, nt 0), (15, pt b91), (85, .bool false)] ?_
 refine V_false rfl ?_
 refine V_skip ?_
 refine X_then ?_
 refine V_seq ?_
 refine Vs [(1, nt 0), (15, pt b91), (16, nt 0)] ?_
 refine V_block ?_
 refine V_pick [(1, nt 0), (15, pt b91), (16, nt 0)] rfl ?_
 refine V_loop (fun k wI e => (k = 0) ∧ Keep none_ w91 wI ∧ e = [(1, nt 0), (15, pt b91), (16, nt 0)]) 0 ⟨rfl, Keep.refl _ _, rfl⟩ ?_
 rintro k94 w93 _ ⟨hk9, hk95, rfl⟩
 have hsz96 := Keep.size hk95
 replace hb91 := hb91.k0 hk95
 replace hA2 := hA2.keep0 hk95
 replace hA45 := hA45.keep0 hk95
 replace hA63 := hA63.keep0 hk95
 replace hK0 := hK0.tn hk95
 replace ho32 := ho32.keep hk95 nk
 replace hR52 := hR52.keep hk95 nk
 replace ho77 := ho77.keep hk95 nk
 have hzhk95 := Keep.size hk95
 refine V_seq ?_
 refine Vs [(1, nt 0), (15, pt b91), (16, nt 0), (90, undef), (91, undef), (92, .bool false)] ?_
 refine V_false rfl ?_
 refine V_exit ?_
 refine X_exit_then ?_
 refine X_exit_then ?_
 refine X_exit_here ?_
 refine X_then ?_
 refine Vs [(4, pt b91)] ?_
 refine V_ret ?_
 exact X_return _ rfl ⟨b91, r50, gg54, g75, l30, H51, F76, F31, pv40, pv89, pv69, rfl, hb91, hR52, ho77, ho32, hK0, by omega, (fun q hq => ⟨by have h1 := own56 q hq; omega, by have h1 := lt57 q hq; omega⟩), (fun q hq => ⟨by have h1 := own80 q hq; omega, by have h1 := lt81 q hq; omega⟩), (fun q hq => ⟨by have h1 := own35 q hq; omega, by have h1 := lt36 q hq; omega⟩), (fun q h1 h2 => dis86 q h2 h1), dis60, dis85⟩
end Go.Al

namespace Go.Al
open Go Go.RowKit Go.Proofs
section
variable {id n : Int} {b : Bool} {x l : List (Int × Int)} {i : Nat} {o : Int × Int}
end
def lkc (q : Int × Int) : List Value := [nt q.1, nt q.2]
structure DE where
  f : Int
  h : Int
  A : Option Addr
  cap : Nat
  ls : List (Int × Int)
def DE.cells (d : DE) : List Value := [nt d.f, nt d.h, .slice d.A d.ls.length d.cap]
theorem DE.len (d : DE) : d.cells.length = 3 := rfl
def DE.acc (d : DE) : Acc := ⟨d.f, d.h⟩
def DAll (F : Nat → Prop) (w : World) (x : Nat) (A : Option Addr) (ds : List DE) (cs : List Ci) : Prop := ∀ (j : Nat) (d : DE), ds[j]? = some d → d.ls = rowL (j : Int) cs ∧ SlT w 2 lkc d.A d.cap d.ls ∧ ∀ q, inA d.A q → F q ∧ q ≠ x ∧ ¬ inA A q
structure DlX (F : Nat → Prop) (w : World) (x : Nat) (A : Option Addr) (cap : Nat) (ds : List DE) (xs : List Acc) (cs : List Ci) : Prop where
  blk : Blk w x [.slice A ds.length cap] 111
  sl : SlT w 3 DE.cells A cap ds
  own : ∀ q, inA A q → F q ∧ q ≠ x
  acc : ds.map DE.acc = xs
  all : DAll F w x A ds cs
def OkC (cs : List Ci) : Prop := cs.length ≤ 90000 ∧ Srt cs ∧ ∀ c ∈ cs, isA c.a = true
def DLd (F : Nat → Prop) (w : World) (x : Nat) (xs : List Acc) (cs : List Ci) : Prop := Inv xs ∧ OkC cs ∧ F x ∧ (∀ q, F q → q < w.heap.size) ∧ ∃ A cap ds, DlX F w x A cap ds xs cs
section
variable {F S : Nat → Prop} {w w' : World} {x cap cap' : Nat} {A A' : Option Addr} {ds ds' : List DE} {xs xs' : List Acc} {cs cs' : List Ci} {j : Nat} {d : DE}
theorem DLd.lt (h : DLd F w x xs cs) : ∀ q, F q → q < w.heap.size := h.2.2.2.1
theorem DLd.at_ (h : DLd F w x xs cs) : F x := h.2.2.1
theorem DLd.inv (h : DLd F w x xs cs) : Inv xs := h.1
theorem DLd.okc (h : DLd F w x xs cs) : OkC cs := h.2.1
theorem DAll.keep (h : DAll F w x A ds cs) (k : Keep S w w') (hS : ∀ q, F q → q ≠ x → ¬ inA A q → ¬ S q) : DAll F w' x A ds cs := fun j d hd => by
  obtain ⟨h1, h2, h3⟩ := h j d hd
  exact ⟨h1, h2.keep k (fun q hq => hS q (h3 q hq).1 (h3 q hq).2.1 (h3 q hq).2.2), h3⟩
theorem DLd.keep (h : DLd F w x xs cs) (k : Keep S w w') (hS : ∀ q, F q → ¬ S q) : DLd F w' x xs cs := by
  obtain ⟨h0, h1, h2, h3, A, cap, ds, h4, h5, h6, h7, h8⟩ := h
  exact ⟨h0, h1, h2, fun q hq => Nat.lt_of_lt_of_le (h3 q hq) k.size, A, cap, ds, h4.keep k (hS _ h2), h5.keep k (fun q hq => hS q (h6 q hq).1), h6, h7, h8.keep k (fun q hq _ _ => hS q hq)⟩
theorem DLd.quiet {N : Nat} (h : DLd F w x xs cs) (k : Keep (lb N w) w w') : DLd F w' x xs cs := by
  obtain ⟨h0, h1, h2, h3, A, cap, ds, h4, h5, h6, h7, h8⟩ := h
  exact ⟨h0, h1, h2, fun q hq => Nat.lt_of_lt_of_le (h3 q hq) k.size, A, cap, ds, h4.quiet k, h5.quiet k, h6, h7, fun j d hd => ⟨(h8 j d hd).1, (h8 j d hd).2.1.quiet k, (h8 j d hd).2.2⟩⟩
theorem DLd.mono {F' : Nat → Prop} (h : DLd F w x xs cs) (hF : ∀ q, F q → F' q) (hlt : ∀ q, F' q → q < w.heap.size) : DLd F' w x xs cs := by
  obtain ⟨h0, h1, h2, h3, A, cap, ds, h4, h5, h6, h7, h8⟩ := h
  exact ⟨h0, h1, hF _ h2, hlt, A, cap, ds, h4, h5, fun q hq => ⟨hF q (h6 q hq).1, (h6 q hq).2⟩, h7, fun j d hd => ⟨(h8 j d hd).1, (h8 j d hd).2.1, fun q hq => ⟨hF q ((h8 j d hd).2.2 q hq).1, ((h8 j d hd).2.2 q hq).2⟩⟩⟩
theorem isA_no {a : Int} (h : isA a = false) : ¬ (0 ≤ a ∧ a < 10) := by simpa [isA] using h
theorem de_acct (h : ds.map DE.acc = xs) (hd : ds[j]? = some d) (hj : j < 10) : acct xs (j : Int) = ⟨d.f, d.h⟩ := acct_in (by rw [← h, List.getElem?_map, hd]; rfl) hj
theorem de_at (h : ds.map DE.acc = xs) (hd : ds[j]? = some d) : xs[j]? = some ⟨d.f, d.h⟩ := by rw [← h, List.getElem?_map, hd]; rfl
theorem de_len (h : ds.map DE.acc = xs) (hi : Inv xs) : ds.length = 10 := by rw [← hi.1, ← h, List.length_map]
theorem DAll.set (h : DAll F w x A ds cs) (hd : ds[j]? = some d) (f g : Int) : DAll F w x A (ds.set j ⟨f, g, d.A, d.cap, d.ls⟩) cs := fun i e he => by
  by_cases hij : i = j
  · subst hij
    rw [List.getElem?_set_self (List.getElem?_eq_some_iff.1 hd).1] at he
    simp only [Option.some.injEq] at he
    subst he
    exact h i d hd
  · rw [List.getElem?_set_ne (Ne.symm hij)] at he
    exact h i e he
theorem map_set (h : ds.map DE.acc = xs) (f g : Int) (A9 : Option Addr) (c9 : Nat) (l9 : List (Int × Int)) : (ds.set j ⟨f, g, A9, c9, l9⟩).map DE.acc = xs.set j ⟨f, g⟩ := by rw [List.map_set, h]; rfl
end
set_option maxRecDepth 10000 in
theorem is6_spec (a : Int) (w : World) : Calls Tryz.prog 55 #[nt a] w fun e w' => e = .returned (.bool (isA a)) ∧ w' = w := by
 refine enterV Tryz.func55 rfl [nt a] 9 rfl rfl rfl ?_
 refine Vr ?_
 refine On 1 [0] ?_
 refine Oer ?_
 refine Os 3 [(0, nt a), (5, .bool (decide (a ≥ 0)))] ?_
 by_cases hg1 : a ≥ 0
 ·
  refine OI_eq [(0, nt a), (5, .bool true)] (by first | simp [hg1] | rfl) ?_
  refine Ose [(2, .bool (decide (a < 10)))] ?_
  refine V_ret ?_
  exact X_return (.bool (decide (a < 10))) rfl ⟨by congr 2; unfold isA; by_cases h1 : 0 ≤ a <;> simp [h1] <;> omega, rfl⟩
 refine OI_eq [(0, nt a), (5, .bool false)] (by first | simp [hg1] | rfl) ?_
 refine Ose [(2, .bool false)] ?_
 refine V_ret ?_
 exact X_return (.bool false) rfl ⟨by congr 2; unfold isA; by_cases h1 : 0 ≤ a <;> simp [h1] <;> omega, rfl⟩
set_option maxRecDepth 10000 in
theorem free6_spec (F : Nat → Prop) (x : Nat) (xs : List Acc) (cs : List Ci) (a : Int) (w : World) (h : DLd F w x xs cs)  : Calls Tryz.prog 35 #[pt x, nt a] w fun e w' => e = .returned (nt (acct xs a).free) ∧ Keep none_ w w' := by
 obtain ⟨hinv, hcl, hFx, hFlt, A, cap, ds, hdx⟩ := h
 have hx := hdx.blk
 have hA := hdx.sl
 have hxlt := hx.lt
 have hacc := hdx.acc
 have hall := hdx.all
 have hAx : ∀ q, inA A q → q ≠ x := fun q hq => (hdx.own q hq).2
 have hAlt := SlT.lt hA
 have hdl := de_len hacc hinv
 have hcl1 := hcl.1
 have hF0 : ∀ q, F q → F q ∨ w.heap.size ≤ q := fun _ h => .inl h
 have hK0 : Keep none_ w w := Keep.refl _ _
 have hzhK0 := Keep.size hK0
 refine enterV Tryz.func35 rfl [pt x, nt a] 16 rfl rfl rfl ?_
 refine Vr ?_
 refine On 1 [0, 1] ?_
 refine Oe ?_
 refine V_seq ?_
 refine Vr ?_
 refine On 1 [0, 1, 5] ?_
 refine Ok (kL 55 #[(.tmp 5)] #[3]) 55 #[nt a] (some 6) (is6_spec a _) ?_
 rintro _ w ⟨rfl, rfl⟩
 refine ⟨_, rfl, ?_⟩
 refine Ose [(0, pt x), (1, nt a), (7, .bool (!(isA a)))] ?_
 refine V_ifb (!(isA a)) (by kernel_rfl) (fun hc4 => ?_) (fun hc4 => ?_)
 ·
  refine Vs [(4, nt 0)] ?_
  refine V_ret ?_
  refine X_ret_then ?_
  exact X_return (nt 0) rfl ⟨by rw [acct_out (isA_no (by simpa using hc4))], hK0⟩
 have hiaa : isA a = true := by simpa using hc4
 obtain ⟨j5, hj5, hjl5⟩ : ∃ j : Nat, a = j ∧ j < 10 := ⟨(a).toNat, by have h9 := hiaa; simp only [isA, decide_eq_true_eq] at h9; omega, by have h9 := hiaa; simp only [isA, decide_eq_true_eq] at h9; omega⟩
 refine V_skip ?_
 refine X_then ?_
 refine Vr ?_
 refine On 3 [1, 10] ?_
 refine Oc 109 (.tmp 10) 0 (.slice A ds.length cap) (some 11) hx rfl ?_
 refine On 5 [11, 12] ?_
 obtain ⟨b6, o6, L6, T6, rfl, hat6⟩ := SlT.opn hA
 have hb6lt := hat6.blk.lt
 have hob7 := hAx b6 ⟨_, rfl, rfl⟩
 have hob8 := hAlt b6 ⟨_, rfl, rfl⟩
 refine Op_ [(11, sl_ b6 o6 ds.length cap), (12, nt a)] ?_
 refine Oq (u := nt a) (v := nt (j5 : Int)) 12 (by rw [hj5]) ?_
 refine Oi (b := b6) (o := o6) (len := ds.length) (cap := cap) (j := j5) (some 13) 109 (.tmp 11) (.tmp 12) 114 3 40 .i64 ?_
 refine On 7 [14] ?_
 obtain ⟨x9, hx10⟩ := exAt (xs := ds) (i := j5)
 refine Oc 3 (.tmp 14) (o6 + j5 * 3) (nt x9.f) (some 15) hat6.blk (At.cell0 hat6 (es_at hx10) rfl) ?_
 refine Ose [(4, nt x9.f)] ?_
 refine V_ret ?_
 exact X_return (nt x9.f) rfl ⟨by rw [hj5, de_acct hacc hx10 hjl5], hK0⟩
set_option maxRecDepth 10000 in
theorem held6_spec (F : Nat → Prop) (x : Nat) (xs : List Acc) (cs : List Ci) (a : Int) (w : World) (h : DLd F w x xs cs)  : Calls Tryz.prog 37 #[pt x, nt a] w fun e w' => e = .returned (nt (acct xs a).held) ∧ Keep none_ w w' := by
 obtain ⟨hinv, hcl, hFx, hFlt, A, cap, ds, hdx⟩ := h
 have hx := hdx.blk
 have hA := hdx.sl
 have hxlt := hx.lt
 have hacc := hdx.acc
 have hall := hdx.all
 have hAx : ∀ q, inA A q → q ≠ x := fun q hq => (hdx.own q hq).2
 have hAlt := SlT.lt hA
 have hdl := de_len hacc hinv
 have hcl1 := hcl.1
 have hF0 : ∀ q, F q → F q ∨ w.heap.size ≤ q := fun _ h => .inl h
 have hK0 : Keep none_ w w := Keep.refl _ _
 have hzhK0 := Keep.size hK0
 refine enterV Tryz.func37 rfl [pt x, nt a] 16 rfl rfl rfl ?_
 refine Vr ?_
 refine On 1 [0, 1] ?_
 refine Oe ?_
 refine V_seq ?_
 refine Vr ?_
 refine On 1 [0, 1, 5] ?_
 refine Ok (kL 55 #[(.tmp 5)] #[3]) 55 #[nt a] (some 6) (is6_spec a _) ?_
 rintro _ w ⟨rfl, rfl⟩
 refine ⟨_, rfl, ?_⟩
 refine Ose [(0, pt x), (1, nt a), (7, .bool (!(isA a)))] ?_
 refine V_ifb (!(isA a)) (by kernel_rfl) (fun hc4 => ?_) (fun hc4 => ?_)
 ·
  refine Vs [(4, nt 0)] ?_
  refine V_ret ?_
  refine X_ret_then ?_
  exact X_return (nt 0) rfl ⟨by rw [acct_out (isA_no (by simpa using hc4))], hK0⟩
 have hiaa : isA a = true := by simpa using hc4
 obtain ⟨j5, hj5, hjl5⟩ : ∃ j : Nat, a = j ∧ j < 10 := ⟨(a).toNat, by have h9 := hiaa; simp only [isA, decide_eq_true_eq] at h9; omega, by have h9 := hiaa; simp only [isA, decide_eq_true_eq] at h9; omega⟩
 refine V_skip ?_
 refine X_then ?_
 refine Vr ?_
 refine On 3 [1, 10] ?_
 refine Oc 109 (.tmp 10) 0 (.slice A ds.length cap) (some 11) hx rfl ?_
 refine On 5 [11, 12] ?_
 obtain ⟨b6, o6, L6, T6, rfl, hat6⟩ := SlT.opn hA
 have hb6lt := hat6.blk.lt
 have hob7 := hAx b6 ⟨_, rfl, rfl⟩
 have hob8 := hAlt b6 ⟨_, rfl, rfl⟩
 refine Op_ [(11, sl_ b6 o6 ds.length cap), (12, nt a)] ?_
 refine Oq (u := nt a) (v := nt (j5 : Int)) 12 (by rw [hj5]) ?_
 refine Oi (b := b6) (o := o6) (len := ds.length) (cap := cap) (j := j5) (some 13) 109 (.tmp 11) (.tmp 12) 114 3 40 .i64 ?_
 refine On 7 [14] ?_
 obtain ⟨x9, hx10⟩ := exAt (xs := ds) (i := j5)
 refine Oc 3 (.tmp 14) (o6 + j5 * 3 + 1) (nt x9.h) (some 15) hat6.blk (At.cell hat6 (es_at hx10) rfl) ?_
 refine Ose [(4, nt x9.h)] ?_
 refine V_ret ?_
 exact X_return (nt x9.h) rfl ⟨by rw [hj5, de_acct hacc hx10 hjl5], hK0⟩
end Go.Al

namespace Go.Al
open Go Go.RowKit Go.Proofs
theorem take_row {l : List (Int × Int)} {i : Nat} {o : Int × Int} (h : l[i]? = some o) : l.take (i + 1) = l.take i ++ [o] := by
  obtain ⟨h1, h2⟩ := List.getElem?_eq_some_iff.1 h
  rw [List.take_succ_eq_append_getElem h1, h2]
set_option maxRecDepth 10000 in
theorem locked6_in (F : Nat → Prop) (x : Nat) (xs : List Acc) (cs : List Ci) (j : Nat) (w : World) (h : DLd F w x xs cs) (hj : j < 10) : Calls Tryz.prog 96 #[pt x, nt (j : Int)] w fun e w' => e = .returned (nt (lockedL cs (j : Int))) ∧ Keep none_ w w' := by
 obtain ⟨hinv, hcl, hFx, hFlt, A, cap, ds, hdx⟩ := h
 have hx := hdx.blk
 have hA := hdx.sl
 have hxlt := hx.lt
 have hacc := hdx.acc
 have hall := hdx.all
 have hAx : ∀ q, inA A q → q ≠ x := fun q hq => (hdx.own q hq).2
 have hAlt := SlT.lt hA
 have hdl := de_len hacc hinv
 have hcl1 := hcl.1
 have hF0 : ∀ q, F q → F q ∨ w.heap.size ≤ q := fun _ h => .inl h
 have hrl : (rowL (j : Int) cs).length ≤ cs.length := by unfold rowL; rw [List.length_map]; exact List.length_filter_le ..
 have hK0 : Keep none_ w w := Keep.refl _ _
 have hzhK0 := Keep.size hK0
 refine enterV Tryz.func96 rfl [pt x, nt (j : Int)] 39 rfl rfl rfl ?_
 refine Vr ?_
 refine On 1 [0, 1] ?_
 refine Oer ?_
 refine On 1 [0, 1, 5] ?_
 refine Oe ?_
 refine V_seq ?_
 refine Vs [(0, pt x), (1, nt (j : Int)), (5, nt 0), (6, nt 0)] ?_
 refine V_block ?_
 refine V_pick [(0, pt x), (1, nt (j : Int)), (5, nt 0), (6, nt 0)] rfl ?_
 refine V_loop (fun k wI e => ∃ i : Nat, ∃ m : Int, (k + i = (rowL (j : Int) cs).length) ∧ (m = lockM ((rowL (j : Int) cs).take i) 0) ∧ Keep none_ w wI ∧ e = [(0, pt x), (1, nt (j : Int)), (5, nt m), (6, nt (i : Int))]) ((rowL (j : Int) cs).length) ⟨0, 0, by omega, rfl, Keep.refl _ _, rfl⟩ ?_
 rintro k2 w1 _ ⟨i, m, hki, hm, hk3, rfl⟩
 have hsz4 := Keep.size hk3
 replace hx := hx.k0 hk3
 replace hA := hA.keep0 hk3
 replace hall := DAll.keep hall hk3 (fun _ _ _ _ f => f)
 replace hK0 := hK0.tn hk3
 have hzhk3 := Keep.size hk3
 refine V_seq ?_
 refine Vr ?_
 refine On 1 [0, 1, 5, 6, 7] ?_
 refine Ok (kL 55 #[(.tmp 7)] #[3]) 55 #[nt (j : Int)] (some 8) (is6_spec (j : Int) _) ?_
 rintro _ w1 ⟨rfl, rfl⟩
 refine ⟨_, rfl, ?_⟩
 refine Os 3 [(0, pt x), (1, nt (j : Int)), (5, nt m), (6, nt (i : Int)), (9, .bool (isA (j : Int)))] ?_
 refine Oq (u := .bool (isA (j : Int))) (v := .bool true) 9 (by rw [isA_in hj]) ?_
 refine On 7 [0, 1, 5, 6, 9, 10, 11, 12, 13] ?_
 refine Oc 109 (.tmp 13) 0 (.slice A ds.length cap) (some 14) hx rfl ?_
 refine On 9 [0, 1, 5, 6, 9, 10, 11, 12, 13, 14, 15] ?_
 obtain ⟨b9, o9, L9, T9, rfl, hat9⟩ := SlT.opn hA
 have hb9lt := hat9.blk.lt
 have hob10 := hAx b9 ⟨_, rfl, rfl⟩
 have hob11 := hAlt b9 ⟨_, rfl, rfl⟩
 refine Oi (b := b9) (o := o9) (len := ds.length) (cap := cap) (j := j) (some 16) 109 (.tmp 14) (.tmp 15) 114 3 40 .i64 ?_
 refine On 11 [0, 1, 5, 6, 9, 10, 11, 12, 13, 14, 15, 16, 17] ?_
 obtain ⟨x12, hx13⟩ := exAt (xs := ds) (i := j)
 obtain ⟨f14, g14, A14, c14, l14⟩ := x12
 obtain ⟨hls14, hsl14, hso14⟩ := hall j _ hx13
 replace hls14 : l14 = rowL (j : Int) cs := hls14
 replace hsl14 : SlT w1 2 lkc A14 c14 l14 := hsl14
 replace hso14 : ∀ q, inA A14 q → _ := hso14
 obtain ⟨hbf14, hbh14, hbt14, _⟩ := hinv.at_ (de_at hacc hx13)
 replace hbf14 : 0 ≤ f14 := hbf14
 replace hbh14 : 0 ≤ g14 := hbh14
 replace hbt14 : f14 + g14 ≤ 1073741824 := hbt14
 have hsw14 : ∀ q, inA A14 q → q ≠ x ∧ q ≠ b9 ∧ q < w.heap.size := fun q hq => ⟨(hso14 q hq).2.1, fun e => (hso14 q hq).2.2 ⟨_, rfl, e⟩, hFlt q (hso14 q hq).1⟩
 have hsx14 := SlT.lt hsl14
 have hll14 : l14.length = (rowL (j : Int) cs).length := by rw [hls14]
 refine Oc 112 (.tmp 17) (o9 + j * 3 + 2) (.slice A14 l14.length c14) (some 18) hat9.blk (At.cell hat9 (es_at hx13) rfl) ?_
 refine Ose [(0, pt x), (1, nt (j : Int)), (5, nt m), (6, nt (i : Int)), (10, nt (i : Int)), (11, pt x), (12, pt x), (13, pt x), (14, sl_ b9 o9 ds.length cap), (15, nt (j : Int)), (16, .pointer (some ⟨b9, o9 + j * 3, none⟩)), (17, .pointer (some ⟨b9, o9 + j * 3 + 2, none⟩)), (18, .slice A14 l14.length c14), (19, nt (l14.length : Int)), (20, .bool (decide ((i : Int) < (l14.length : Int)))), (21, .bool (decide ((i : Int) < (l14.length : Int))))] ?_
 refine V_if ((i : Int) < (l14.length : Int)) (by kernel_rfl) (fun hc15 => ?_) (fun hc15 => ?_)
 ·
  refine V_skip ?_
  refine X_then ?_
  refine V_seq ?_
  refine V_block ?_
  refine V_region ?_
  refine On 4 [0, 1, 6, 10, 11, 12, 13, 14, 15, 16, 17, 18, 19, 20, 24, 27] ?_
  refine Oc 109 (.tmp 27) 0 (sl_ b9 o9 ds.length cap) (some 28) hx rfl ?_
  refine On 6 [0, 1, 6, 10, 11, 12, 13, 14, 15, 16, 17, 18, 19, 20, 24, 28, 29] ?_
  refine Oi (b := b9) (o := o9) (len := ds.length) (cap := cap) (j := j) (some 30) 109 (.tmp 28) (.tmp 29) 114 3 40 .i64 ?_
  refine On 8 [0, 1, 6, 10, 11, 12, 13, 14, 15, 16, 17, 18, 19, 20, 24, 31] ?_
  refine Oc 112 (.tmp 31) (o9 + j * 3 + 2) (.slice A14 l14.length c14) (some 32) hat9.blk (At.cell hat9 (es_at hx13) rfl) ?_
  refine On 10 [0, 1, 6, 10, 11, 12, 13, 14, 15, 16, 17, 18, 19, 20, 24, 32, 33] ?_
  obtain ⟨b16, o16, L16, T16, rfl, hat16⟩ := SlT.opn hsl14
  have hb16lt := hat16.blk.lt
  have hob17 := hsw14 b16 ⟨_, rfl, rfl⟩
  have hob18 := hsx14 b16 ⟨_, rfl, rfl⟩
  refine Oi (b := b16) (o := o16) (len := l14.length) (cap := c14) (j := i) (some 34) 112 (.tmp 32) (.tmp 33) 185 2 16 .i64 ?_
  refine On 12 [0, 1, 6, 10, 11, 12, 13, 14, 15, 16, 17, 18, 19, 20, 24, 35] ?_
  obtain ⟨x19, hx20⟩ := exAt (xs := l14) (i := i)
  refine Oc 3 (.tmp 35) (o16 + i * 2 + 1) (nt x19.2) (some 36) hat16.blk (At.cell hat16 (es_at hx20) rfl) ?_
  refine Os 15 [(0, pt x), (1, nt (j : Int)), (5, nt (if x19.2 > m then x19.2 else m)), (6, nt (i : Int)), (10, nt (i : Int)), (11, pt x), (12, pt x), (13, pt x), (14, sl_ b9 o9 ds.length cap), (15, nt (j : Int)), (16, .pointer (some ⟨b9, o9 + j * 3, none⟩)), (17, .pointer (some ⟨b9, o9 + j * 3 + 2, none⟩)), (18, sl_ b16 o16 l14.length c14), (19, nt (l14.length : Int)), (20, .bool (decide ((i : Int) < (l14.length : Int))))] ?_
  refine OI_end rfl ?_
  refine X_block ?_
  refine X_then ?_
  refine V_region ?_
  have hw21 : IntKind.i64.wrap ((i : Int) + 1) = ((i + 1 : Nat) : Int) := wrp
  refine Os 2 [(0, pt x), (1, nt (j : Int)), (5, nt (if x19.2 > m then x19.2 else m)), (10, nt (i : Int)), (11, pt x), (12, pt x), (13, pt x), (14, sl_ b9 o9 ds.length cap), (15, nt (j : Int)), (16, .pointer (some ⟨b9, o9 + j * 3, none⟩)), (17, .pointer (some ⟨b9, o9 + j * 3 + 2, none⟩)), (18, sl_ b16 o16 l14.length c14), (19, nt (l14.length : Int)), (20, .bool (decide ((i : Int) < (l14.length : Int)))), (23, nt (IntKind.i64.wrap ((i : Int) + 1)))] ?_
  refine Oq (u := nt (IntKind.i64.wrap ((i : Int) + 1))) (v := nt ((i + 1 : Nat) : Int)) 23 (by rw [hw21]) ?_
  refine Os 3 [(0, pt x), (1, nt (j : Int)), (5, nt (if x19.2 > m then x19.2 else m)), (6, nt ((i + 1 : Nat) : Int)), (10, nt (i : Int)), (11, pt x), (12, pt x), (13, pt x), (14, sl_ b9 o9 ds.length cap), (15, nt (j : Int)), (16, .pointer (some ⟨b9, o9 + j * 3, none⟩)), (17, .pointer (some ⟨b9, o9 + j * 3 + 2, none⟩)), (18, sl_ b16 o16 l14.length c14), (19, nt (l14.length : Int)), (20, .bool (decide ((i : Int) < (l14.length : Int))))] ?_
  refine OI_end rfl ?_
  exact V_again (k2 - 1) (by omega) [(0, pt x), (1, nt (j : Int)), (5, nt (if x19.2 > m then x19.2 else m)), (6, nt ((i + 1 : Nat) : Int))] rfl ⟨i + 1, if x19.2 > m then x19.2 else m, by omega, by rw [take_row (by rw [← hls14]; exact hx20), lockM_app, ← hm], hk3, rfl⟩
 refine V_exit ?_
 refine X_exit_then ?_
 refine X_exit_then ?_
 refine X_exit_here ?_
 refine X_then ?_
 refine Vs [(4, nt m)] ?_
 refine V_ret ?_
 have hie : i = (rowL (j : Int) cs).length := by omega
 rw [hie, List.take_length] at hm
 exact X_return _ rfl ⟨by rw [hm]; rfl, hK0⟩
set_option maxRecDepth 10000 in
theorem locked6_out (F : Nat → Prop) (x : Nat) (xs : List Acc) (cs : List Ci) (a : Int) (w : World) (h : DLd F w x xs cs) (hia : isA a = false) : Calls Tryz.prog 96 #[pt x, nt a] w (rk_ w (nt 0)) := by
 obtain ⟨hinv, hcl, hFx, hFlt, A, cap, ds, hdx⟩ := h
 have hx := hdx.blk
 have hA := hdx.sl
 have hxlt := hx.lt
 have hacc := hdx.acc
 have hall := hdx.all
 have hAx : ∀ q, inA A q → q ≠ x := fun q hq => (hdx.own q hq).2
 have hAlt := SlT.lt hA
 have hdl := de_len hacc hinv
 have hcl1 := hcl.1
 have hF0 : ∀ q, F q → F q ∨ w.heap.size ≤ q := fun _ h => .inl h
 have hK0 : Keep none_ w w := Keep.refl _ _
 have hzhK0 := Keep.size hK0
 refine enterV Tryz.func96 rfl [pt x, nt a] 39 rfl rfl rfl ?_
 refine Vr ?_
 refine On 1 [0, 1] ?_
 refine Oer ?_
 refine On 1 [0, 1, 5] ?_
 refine Oe ?_
 refine V_seq ?_
 refine Vs [(0, pt x), (1, nt a), (5, nt 0), (6, nt 0)] ?_
 refine V_block ?_
 refine V_pick [(0, pt x), (1, nt a), (5, nt 0), (6, nt 0)] rfl ?_
 refine V_loop (fun k wI e => (k = 0) ∧ Keep none_ w wI ∧ e = [(0, pt x), (1, nt a), (5, nt 0), (6, nt 0)]) 0 ⟨rfl, Keep.refl _ _, rfl⟩ ?_
 rintro k2 w1 _ ⟨hk9, hk3, rfl⟩
 have hsz4 := Keep.size hk3
 replace hx := hx.k0 hk3
 replace hA := hA.keep0 hk3
 replace hall := DAll.keep hall hk3 (fun _ _ _ _ f => f)
 replace hK0 := hK0.tn hk3
 have hzhk3 := Keep.size hk3
 refine V_seq ?_
 refine Vr ?_
 refine On 1 [0, 1, 5, 6, 7] ?_
 refine Ok (kL 55 #[(.tmp 7)] #[3]) 55 #[nt a] (some 8) (is6_spec a _) ?_
 rintro _ w1 ⟨rfl, rfl⟩
 refine ⟨_, rfl, ?_⟩
 refine Os 3 [(0, pt x), (1, nt a), (5, nt 0), (6, nt 0), (9, .bool (isA a))] ?_
 refine Oq (u := .bool (isA a)) (v := .bool false) 9 (by rw [hia]) ?_
 refine Ose [(0, pt x), (1, nt a), (5, nt 0), (6, nt 0), (10, undef), (11, undef), (12, undef), (13, undef), (14, undef), (15, undef), (16, undef), (17, undef), (18, undef), (19, undef), (20, undef), (21, .bool false)] ?_
 refine V_false rfl ?_
 refine V_exit ?_
 refine X_exit_then ?_
 refine X_exit_then ?_
 refine X_exit_here ?_
 refine X_then ?_
 refine Vs [(4, nt 0)] ?_
 refine V_ret ?_
 exact X_return (nt 0) rfl ⟨rfl, hK0⟩
theorem locked6_spec (F : Nat → Prop) (x : Nat) (xs : List Acc) (cs : List Ci) (a : Int) (w : World) (h : DLd F w x xs cs) : Calls Tryz.prog 96 #[pt x, nt a] w fun e w' => e = .returned (nt (lockedL cs a)) ∧ Keep none_ w w' := by
  cases hia : isA a with
  | true =>
    obtain ⟨j, rfl⟩ : ∃ j : Nat, a = j := ⟨a.toNat, by simp only [isA, decide_eq_true_eq] at hia; omega⟩
    exact locked6_in F x xs cs j w h (by simp only [isA, decide_eq_true_eq] at hia; omega)
  | false =>
    have h0 : lockedL cs a = 0 := by
      have hr : rowL a cs = [] := by
        unfold rowL
        rw [List.filter_eq_nil_iff.2]; rfl
        intro c hc hca
        have := h.okc.2.2 c hc
        rw [show c.a = a by simpa using hca, hia] at this; cases this
      unfold lockedL; rw [hr]; rfl
    rw [h0]; exact locked6_out F x xs cs a w h hia
end Go.Al

namespace Go.Al
open Go Go.RowKit Go.Proofs
set_option maxRecDepth 10000 in
theorem may6_spec (F : Nat → Prop) (x : Nat) (xs : List Acc) (cs : List Ci) (a n : Int) (w : World) (h : DLd F w x xs cs) : Calls Tryz.prog 66 #[pt x, nt a, nt n] w fun e w' => e = .returned (nt (spendsE xs cs a n)) ∧ Keep none_ w w' := by
 have h9 := h
 obtain ⟨hinv, hcl, hFx, hFlt, A, cap, ds, hdx⟩ := h
 have hx := hdx.blk
 have hA := hdx.sl
 have hxlt := hx.lt
 have hacc := hdx.acc
 have hall := hdx.all
 have hAx : ∀ q, inA A q → q ≠ x := fun q hq => (hdx.own q hq).2
 have hAlt := SlT.lt hA
 have hdl := de_len hacc hinv
 have hcl1 := hcl.1
 have hF0 : ∀ q, F q → F q ∨ w.heap.size ≤ q := fun _ h => .inl h
 have hK0 : Keep none_ w w := Keep.refl _ _
 have hzhK0 := Keep.size hK0
 refine enterV Tryz.func66 rfl [pt x, nt a, nt n] 49 rfl rfl rfl ?_
 refine Vr ?_
 refine On 1 [0, 1, 2] ?_
 refine Oe ?_
 refine V_seq ?_
 refine V_block ?_
 refine Vr ?_
 refine On 1 [0, 1, 2, 8] ?_
 refine Ok (kL 55 #[(.tmp 8)] #[3]) 55 #[nt a] (some 9) (is6_spec a _) ?_
 rintro _ w ⟨rfl, rfl⟩
 refine ⟨_, rfl, ?_⟩
 refine Os 4 [(0, pt x), (1, nt a), (2, nt n), (11, .bool (!(isA a)))] ?_
 cases hg6 : (!(isA a))
 ·
  have hiaa : isA a = true := by simpa using hg6
  obtain ⟨j7, hj7, hjl7⟩ : ∃ j : Nat, a = j ∧ j < 10 := ⟨(a).toNat, by have h9 := hiaa; simp only [isA, decide_eq_true_eq] at h9; omega, by have h9 := hiaa; simp only [isA, decide_eq_true_eq] at h9; omega⟩
  refine OI_eq [(0, pt x), (1, nt a), (2, nt n), (11, .bool false)] (by first | rfl | rw [hg6]) ?_
  refine Os 8 [(0, pt x), (1, nt a), (2, nt n), (15, .bool (decide (n < 0)))] ?_
  by_cases hg8 : n < 0
  ·
   refine OI_eq [(0, pt x), (1, nt a), (2, nt n), (15, .bool true)] (by first | simp [hg8] | rfl) ?_
   refine Ose [(0, pt x), (1, nt a), (2, nt n), (7, .bool true)] ?_
   refine V_true rfl ?_
   refine Vs [(6, nt 1)] ?_
   refine V_ret ?_
   refine X_ret_block ?_
   refine X_ret_then ?_
   exact X_return (nt 1) rfl ⟨by unfold spendsE; simp_all <;> omega, hK0⟩
  refine OI_eq [(0, pt x), (1, nt a), (2, nt n), (15, .bool false)] (by first | simp [hg8] | rfl) ?_
  refine Ose [(0, pt x), (1, nt a), (2, nt n), (7, .bool (decide (n > 1073741824)))] ?_
  refine V_if (n > 1073741824) (by kernel_rfl) (fun hc9 => ?_) (fun hc9 => ?_)
  ·
   refine Vs [(6, nt 1)] ?_
   refine V_ret ?_
   refine X_ret_block ?_
   refine X_ret_then ?_
   exact X_return (nt 1) rfl ⟨by unfold spendsE; simp_all <;> omega, hK0⟩
  refine Vr ?_
  refine On 4 [0, 1, 2, 20, 23] ?_
  refine Oc 109 (.tmp 23) 0 (.slice A ds.length cap) (some 24) hx rfl ?_
  refine On 6 [0, 1, 2, 20, 24, 25] ?_
  obtain ⟨b10, o10, L10, T10, rfl, hat10⟩ := SlT.opn hA
  have hb10lt := hat10.blk.lt
  have hob11 := hAx b10 ⟨_, rfl, rfl⟩
  have hob12 := hAlt b10 ⟨_, rfl, rfl⟩
  refine Op_ [(0, pt x), (1, nt a), (2, nt n), (20, nt n), (24, sl_ b10 o10 ds.length cap), (25, nt a)] ?_
  refine Oq (u := nt a) (v := nt (j7 : Int)) 25 (by rw [hj7]) ?_
  refine Oi (b := b10) (o := o10) (len := ds.length) (cap := cap) (j := j7) (some 26) 109 (.tmp 24) (.tmp 25) 114 3 40 .i64 ?_
  refine On 8 [0, 1, 2, 20, 27] ?_
  obtain ⟨x13, hx14⟩ := exAt (xs := ds) (i := j7)
  obtain ⟨f15, g15, A15, c15, l15⟩ := x13
  obtain ⟨hls15, hsl15, hso15⟩ := hall j7 _ hx14
  replace hls15 : l15 = rowL (j7 : Int) cs := hls15
  replace hsl15 : SlT w 2 lkc A15 c15 l15 := hsl15
  replace hso15 : ∀ q, inA A15 q → _ := hso15
  obtain ⟨hbf15, hbh15, hbt15, _⟩ := hinv.at_ (de_at hacc hx14)
  replace hbf15 : 0 ≤ f15 := hbf15
  replace hbh15 : 0 ≤ g15 := hbh15
  replace hbt15 : f15 + g15 ≤ 1073741824 := hbt15
  have hsw15 : ∀ q, inA A15 q → q ≠ x ∧ q ≠ b10 ∧ q < w.heap.size := fun q hq => ⟨(hso15 q hq).2.1, fun e => (hso15 q hq).2.2 ⟨_, rfl, e⟩, hFlt q (hso15 q hq).1⟩
  have hsx15 := SlT.lt hsl15
  have hac_a : acct xs a = ⟨f15, g15⟩ := by rw [hj7]; exact de_acct hacc hx14 hjl7
  refine Oc 3 (.tmp 27) (o10 + j7 * 3) (nt f15) (some 28) hat10.blk (At.cell0 hat10 (es_at hx14) rfl) ?_
  refine Ose [(0, pt x), (1, nt a), (2, nt n), (19, .bool (decide (n > f15)))] ?_
  refine V_if (n > f15) (by kernel_rfl) (fun hc16 => ?_) (fun hc16 => ?_)
  ·
   refine Vs [(6, nt 6)] ?_
   refine V_ret ?_
   refine X_ret_block ?_
   refine X_ret_then ?_
   exact X_return (nt 6) rfl ⟨by unfold spendsE; simp_all <;> omega, hK0⟩
  refine V_seq ?_
  refine Vd (acts [15]) none_ [[0, 1, 2, 13, 14, 15, 3, 4, 5, 6, 7, 8, 9, 10, 11, 12, 16, 17, 18]] ?_
  intro w18 hk17 he19 L hL20
  have hsz21 := Keep.size hk17
  replace hx := hx.k0 hk17
  replace hat10 := hat10.keep hk17 id
  replace hsl15 := hsl15.keep0 hk17
  replace hall := DAll.keep hall hk17 (fun _ _ _ _ f => f)
  replace h9 := DLd.keep h9 hk17 nk
  replace hK0 := hK0.tn hk17
  have qhx := hx
  have qhat10 := hat10
  have K22 : Keep none_ w18 w18 := Keep.refl _ _
  obtain rfl := List.mem_singleton.1 hL20
  refine Gs [13, 14, 15, 3, 4, 5, 6, 7, 8, 9, 10, 11, 12, 16, 17, 18] [(0, pt x), (1, nt a), (2, nt n), (33, .bool (decide (n > 0)))] ?_
  by_cases hg23 : n > 0
  ·
   refine GI_eq [(0, pt x), (1, nt a), (2, nt n), (33, .bool true)] (by first | simp [hg23] | rfl) ?_
   refine Gs [15, 3, 4, 5, 6, 7, 8, 9, 10, 11, 12, 16, 17, 18] [(0, pt x), (1, nt a), (2, nt n), (33, .bool true), (44, pt x), (45, nt a)] ?_
   refine Gk (kL 96 #[(.tmp 44), (.tmp 45)] #[34, 3]) 96 #[pt x, nt a] (some 46) (locked6_spec F x xs cs a _ h9) ?_
   rintro _ w24 ⟨rfl, hk25⟩
   have K26 := K22.tr (Keep.ofNone hk25)
   refine ⟨_, rfl, K26, ?_⟩
   have hzK26 := Keep.size K26
   have hsz27 := Keep.size hk25
   replace hx := hx.k0 hk25
   replace hat10 := hat10.keep hk25 id
   replace hsl15 := hsl15.keep0 hk25
   replace hall := DAll.keep hall hk25 (fun _ _ _ _ f => f)
   replace h9 := DLd.keep h9 hk25 nk
   replace hK0 := hK0.tn hk25
   refine Gn [6, 7, 8, 9, 10, 11, 12, 16, 17, 18] [1, 2, 33, 36, 46] ?_
   refine Gc0 109 (.tmp 36) 0 (sl_ b10 o10 ds.length cap) (some 37) qhx rfl ?_
   refine Gn [8, 9, 10, 11, 12, 16, 17, 18] [2, 33, 37, 38, 46] ?_
   refine Gp_ [(2, nt n), (33, .bool true), (37, sl_ b10 o10 ds.length cap), (38, nt a), (46, nt (lockedL cs a))] ?_
   refine GI_eq [(2, nt n), (33, .bool true), (37, sl_ b10 o10 ds.length cap), (38, nt (j7 : Int)), (46, nt (lockedL cs a))] (by rw [hj7]) ?_
   refine GI_pure (some 39) (.indexAddr 109 (.tmp 37) (.tmp 38)) (by kernel_rfl) (by kernel_rfl) (pure_idxN (b := b10) (o := o10) (len := ds.length) (cap := cap) (kd := .i64) (j := j7) (E := 114) (sz := 3) (by_ := 40) (by kernel_rfl) (by kernel_rfl) (by kernel_rfl) (by omega)) ?_
   refine Gn [10, 11, 12, 16, 17, 18] [2, 33, 40, 46] ?_
   refine Gc0 3 (.tmp 40) (o10 + j7 * 3) (nt f15) (some 41) qhat10.blk (At.cell0 qhat10 (es_at hx14) rfl) ?_
   have hw28 : IntKind.i64.wrap (f15 - n) = f15 - n := wrp
   refine Gs [16, 17, 18] [(33, .bool true), (43, nt (IntKind.i64.wrap (f15 - n))), (46, nt (lockedL cs a))] ?_
   refine GI_eq [(33, .bool true), (43, nt (f15 - n)), (46, nt (lockedL cs a))] (by rw [hw28]) ?_
   refine Gs [] [(30, .bool (decide (f15 - n < lockedL cs a)))] ?_
   refine GI_end ?_
   refine X_then ?_
   refine V_if (f15 - n < lockedL cs a) (by kernel_rfl) (fun hc29 => ?_) (fun hc29 => ?_)
   ·
    refine Vs [(6, nt 7)] ?_
    refine V_ret ?_
    refine X_ret_block ?_
    refine X_ret_then ?_
    exact X_return (nt 7) rfl ⟨by unfold spendsE; simp_all <;> omega, hK0⟩
   refine V_skip ?_
   refine X_block ?_
   refine X_then ?_
   refine Vs [(6, nt 0)] ?_
   refine V_ret ?_
   exact X_return (nt 0) rfl ⟨by unfold spendsE; simp_all <;> omega, hK0⟩
  refine GI_eq [(0, pt x), (1, nt a), (2, nt n), (33, .bool false)] (by first | simp [hg23] | rfl) ?_
  refine Gs [] [(30, .bool false)] ?_
  refine GI_end ?_
  refine X_then ?_
  refine V_false rfl ?_
  refine V_skip ?_
  refine X_block ?_
  refine X_then ?_
  refine Vs [(6, nt 0)] ?_
  refine V_ret ?_
  exact X_return (nt 0) rfl ⟨by unfold spendsE; simp_all <;> omega, hK0⟩
 refine OI_eq [(0, pt x), (1, nt a), (2, nt n), (11, .bool true)] (by first | rfl | rw [hg6]) ?_
 refine Ose [(0, pt x), (1, nt a), (2, nt n), (7, .bool true)] ?_
 refine V_true rfl ?_
 refine Vs [(6, nt 1)] ?_
 refine V_ret ?_
 refine X_ret_block ?_
 refine X_ret_then ?_
 exact X_return (nt 1) rfl ⟨by unfold spendsE; simp_all <;> omega, hK0⟩
end Go.Al

namespace Go.Al
open Go Go.RowKit Go.Proofs
set_option maxRecDepth 10000 in
set_option maxHeartbeats 1000000 in
theorem reserve6_spec (F : Nat → Prop) (x : Nat) (xs : List Acc) (cs : List Ci) (a n : Int) (w : World) (h : DLd F w x xs cs) : Calls Tryz.prog 57 #[pt x, nt a, nt n] w fun e w' => e = .returned (nt (spendsE xs cs a n)) ∧ (∃ F', DLd F' w' x (resX xs cs a n) (cs) ∧ (∀ q, F' q → F q ∨ w.heap.size ≤ q)) ∧ Keep F w w' := by
 have hFlt := DLd.lt h
 have hxlt := hFlt _ (DLd.at_ h)
 have hinv := DLd.inv h
 have htot1 := hinv.2.2
 have htot0 := (tot_mem hinv.2.1).1
 have hF0 : ∀ q, F q → F q ∨ w.heap.size ≤ q := fun _ h => .inl h
 have hK0 : Keep F w w := Keep.refl _ _
 have hzhK0 := Keep.size hK0
 refine enterV Tryz.func57 rfl [pt x, nt a, nt n] 49 rfl rfl rfl ?_
 refine Vr ?_
 refine On 1 [0, 1, 2] ?_
 refine Oer ?_
 refine On 3 [0, 1, 2, 8, 9, 10] ?_
 refine Ok (kL 66 #[(.tmp 8), (.tmp 9), (.tmp 10)] #[34, 3, 3]) 66 #[pt x, nt a, nt n] (some 11) (may6_spec F x xs cs a n _ h) ?_
 rintro _ w1 ⟨rfl, hk2⟩
 refine ⟨_, rfl, ?_⟩
 have hsz3 := Keep.size hk2
 replace h := DLd.keep h hk2 nk
 replace hK0 := hK0.tn hk2
 refine On 5 [0, 1, 2, 7] ?_
 refine Oe ?_
 refine V_seq ?_
 refine Vs [(0, pt x), (1, nt a), (2, nt n), (7, nt (spendsE xs cs a n)), (13, .bool (!(decide (spendsE xs cs a n = 0))))] ?_
 refine V_not (spendsE xs cs a n = 0) (by kernel_rfl) (fun hc4 => ?_) (fun hc4 => ?_)
 ·
  refine Vs [(6, nt (spendsE xs cs a n))] ?_
  refine V_ret ?_
  refine X_ret_then ?_
  exact X_return (nt (spendsE xs cs a n)) rfl ⟨rfl, ⟨F, by rw [show resX xs cs a n = xs from by unfold resX; simp_all]; exact h, hF0⟩, hK0⟩
 obtain ⟨hsa, hn1, hn2, hn3, _⟩ := spends_ok hinv hc4
 obtain ⟨_, hcl, hFx, _, A, cap, ds, hdx⟩ := h
 have hx := hdx.blk
 have hA := hdx.sl
 have hacc := hdx.acc
 have hall := hdx.all
 have hAx : ∀ q, inA A q → q ≠ x := fun q hq => (hdx.own q hq).2
 have hAlt := SlT.lt hA
 have hdl := de_len hacc hinv
 have hcl1 := hcl.1
 have hFlt9 : ∀ q, F q → q < w1.heap.size := fun q hq => Nat.lt_of_lt_of_le (hFlt q hq) (by omega)
 obtain ⟨j5, hj5, hjl5⟩ : ∃ j : Nat, a = j ∧ j < 10 := ⟨(a).toNat, by have h9 := hsa; simp only [isA, decide_eq_true_eq] at h9; omega, by have h9 := hsa; simp only [isA, decide_eq_true_eq] at h9; omega⟩
 refine V_skip ?_
 refine X_then ?_
 refine V_seq ?_
 have h10 : 0 < ds.length := by omega
 obtain ⟨b6, o6, L6, T6, rfl, hat6⟩ := SlT.opn hA
 have hb6lt := hat6.blk.lt
 have hob7 := hAx b6 ⟨_, rfl, rfl⟩
 have hob8 := hAlt b6 ⟨_, rfl, rfl⟩
 have hFb6 : b6 < w.heap.size := hFlt _ (hdx.own _ ⟨_, rfl, rfl⟩).1
 refine Vd (acts [17, 27, 32, 35]) (only b6) [[10, 11, 12, 13, 14, 15, 16, 17, 20, 21, 22, 23, 24, 25, 26, 27, 0, 1, 2, 3, 4, 5, 6, 7, 8, 18, 19, 30, 31, 32, 9, 28, 29, 33, 34, 35], [20, 21, 22, 23, 24, 25, 26, 27, 10, 11, 12, 13, 14, 15, 16, 17, 0, 1, 2, 3, 4, 5, 6, 7, 8, 18, 19, 30, 31, 32, 9, 28, 29, 33, 34, 35]] ?_
 intro w10 hk9 he11 L hL12
 have hsz13 := Keep.size hk9
 replace hx := hx.k0 hk9
 replace hat6 := hat6.keep hk9 id
 replace hK0 := hK0.tn hk9
 replace hall := DAll.keep hall hk9 (fun _ _ _ _ f => f)
 have qhx := hx
 have qhat6 := hat6
 have K14 : Keep (only b6) w10 w10 := Keep.refl _ _
 simp only [List.mem_cons, List.not_mem_nil, or_false] at hL12
 rcases hL12 with rfl | rfl
 ·
  refine Gn [13, 14, 15, 16, 17, 20, 21, 22, 23, 24, 25, 26, 27, 0, 1, 2, 3, 4, 5, 6, 7, 8, 18, 19, 30, 31, 32, 9, 28, 29, 33, 34, 35] [0, 1, 2, 27] ?_
  refine Gc 109 (.tmp 27) 0 (sl_ b6 o6 ds.length cap) (some 28) qhx (by show ¬ (_ = _); omega) rfl ?_
  refine Gn [15, 16, 17, 20, 21, 22, 23, 24, 25, 26, 27, 0, 1, 2, 3, 4, 5, 6, 7, 8, 18, 19, 30, 31, 32, 9, 28, 29, 33, 34, 35] [0, 1, 2, 28, 29] ?_
  refine Gp_ [(0, pt x), (1, nt a), (2, nt n), (28, sl_ b6 o6 ds.length cap), (29, nt a)] ?_
  refine GI_eq [(0, pt x), (1, nt a), (2, nt n), (28, sl_ b6 o6 ds.length cap), (29, nt (j5 : Int))] (by rw [hj5]) ?_
  refine GI_pure (some 30) (.indexAddr 109 (.tmp 28) (.tmp 29)) (by kernel_rfl) (by kernel_rfl) (pure_idxN (b := b6) (o := o6) (len := ds.length) (cap := cap) (kd := .i64) (j := j5) (E := 114) (sz := 3) (by_ := 40) (by kernel_rfl) (by kernel_rfl) (by kernel_rfl) (by omega)) ?_
  refine Gs [17, 20, 21, 22, 23, 24, 25, 26, 27, 0, 1, 2, 3, 4, 5, 6, 7, 8, 18, 19, 30, 31, 32, 9, 28, 29, 33, 34, 35] [(0, pt x), (1, nt a), (2, nt n), (31, .pointer (some ⟨b6, o6 + j5 * 3, none⟩))] ?_
  obtain ⟨x15, hx16⟩ := exAt (xs := ds) (i := j5)
  obtain ⟨f17, g17, A17, c17, l17⟩ := x15
  obtain ⟨hls17, hsl17, hso17⟩ := hall j5 _ hx16
  replace hls17 : l17 = rowL (j5 : Int) cs := hls17
  replace hsl17 : SlT w10 2 lkc A17 c17 l17 := hsl17
  replace hso17 : ∀ q, inA A17 q → _ := hso17
  obtain ⟨hbf17, hbh17, hbt17, _⟩ := hinv.at_ (de_at hacc hx16)
  replace hbf17 : 0 ≤ f17 := hbf17
  replace hbh17 : 0 ≤ g17 := hbh17
  replace hbt17 : f17 + g17 ≤ 1073741824 := hbt17
  have hsw17 : ∀ q, inA A17 q → q ≠ x ∧ q ≠ b6 ∧ q < w.heap.size := fun q hq => ⟨(hso17 q hq).2.1, fun e => (hso17 q hq).2.2 ⟨_, rfl, e⟩, hFlt q (hso17 q hq).1⟩
  have hsx17 := SlT.lt hsl17
  have hac_a : acct xs a = ⟨f17, g17⟩ := by rw [hj5]; exact de_acct hacc hx16 hjl5
  rw [hac_a] at hn3; replace hn3 : n ≤ f17 := hn3
  refine GI_cellA 3 (.tmp 31) (o6 + j5 * 3) (nt f17) (some 32) (by kernel_rfl) (by kernel_rfl) K14 (by kernel_rfl) hat6.blk (m := 1) (by kernel_rfl) (At.cell0 hat6 (es_at hx16) rfl) ?_
  refine Gn [23, 24, 25, 26, 27, 0, 1, 2, 3, 4, 5, 6, 7, 8, 18, 19, 30, 31, 32, 9, 28, 29, 33, 34, 35] [0, 1, 2, 32, 37] ?_
  refine Gc 109 (.tmp 37) 0 (sl_ b6 o6 ds.length cap) (some 38) qhx (by show ¬ (_ = _); omega) rfl ?_
  refine Gn [25, 26, 27, 0, 1, 2, 3, 4, 5, 6, 7, 8, 18, 19, 30, 31, 32, 9, 28, 29, 33, 34, 35] [0, 1, 2, 32, 38, 39] ?_
  refine Gp_ [(0, pt x), (1, nt a), (2, nt n), (32, nt f17), (38, sl_ b6 o6 ds.length cap), (39, nt a)] ?_
  refine GI_eq [(0, pt x), (1, nt a), (2, nt n), (32, nt f17), (38, sl_ b6 o6 ds.length cap), (39, nt (j5 : Int))] (by rw [hj5]) ?_
  refine GI_pure (some 40) (.indexAddr 109 (.tmp 38) (.tmp 39)) (by kernel_rfl) (by kernel_rfl) (pure_idxN (b := b6) (o := o6) (len := ds.length) (cap := cap) (kd := .i64) (j := j5) (E := 114) (sz := 3) (by_ := 40) (by kernel_rfl) (by kernel_rfl) (by kernel_rfl) (by omega)) ?_
  refine Gn [27, 0, 1, 2, 3, 4, 5, 6, 7, 8, 18, 19, 30, 31, 32, 9, 28, 29, 33, 34, 35] [0, 1, 2, 32, 41] ?_
  refine GI_cellA 3 (.tmp 41) (o6 + j5 * 3 + 1) (nt g17) (some 42) (by kernel_rfl) (by kernel_rfl) K14 (by kernel_rfl) hat6.blk (m := 1) (by kernel_rfl) (At.cell hat6 (es_at hx16) rfl) ?_
  refine Gn [3, 4, 5, 6, 7, 8, 18, 19, 30, 31, 32, 9, 28, 29, 33, 34, 35] [0, 1, 2, 17, 32, 42] ?_
  refine Gc 109 (.tmp 17) 0 (sl_ b6 o6 ds.length cap) (some 18) qhx (by show ¬ (_ = _); omega) rfl ?_
  refine Gn [8, 18, 19, 30, 31, 32, 9, 28, 29, 33, 34, 35] [1, 2, 18, 19, 22, 32, 42] ?_
  refine Gc 109 (.tmp 22) 0 (sl_ b6 o6 ds.length cap) (some 23) qhx (by show ¬ (_ = _); omega) rfl ?_
  have hw18 : IntKind.i64.wrap (f17 - n) = f17 - n := wrp
  refine Gs [30, 31, 32, 9, 28, 29, 33, 34, 35] [(1, nt a), (2, nt n), (18, sl_ b6 o6 ds.length cap), (19, nt a), (23, sl_ b6 o6 ds.length cap), (34, nt (IntKind.i64.wrap (f17 - n))), (42, nt g17)] ?_
  refine GI_eq [(1, nt a), (2, nt n), (18, sl_ b6 o6 ds.length cap), (19, nt a), (23, sl_ b6 o6 ds.length cap), (34, nt (f17 - n)), (42, nt g17)] (by rw [hw18]) ?_
  refine Gp_ [(1, nt a), (2, nt n), (18, sl_ b6 o6 ds.length cap), (19, nt a), (23, sl_ b6 o6 ds.length cap), (34, nt (f17 - n)), (42, nt g17)] ?_
  refine GI_eq [(1, nt a), (2, nt n), (18, sl_ b6 o6 ds.length cap), (19, nt (j5 : Int)), (23, sl_ b6 o6 ds.length cap), (34, nt (f17 - n)), (42, nt g17)] (by rw [hj5]) ?_
  refine GI_pure (some 45) (.indexAddr 109 (.tmp 18) (.tmp 19)) (by kernel_rfl) (by kernel_rfl) (pure_idxN (b := b6) (o := o6) (len := ds.length) (cap := cap) (kd := .i64) (j := j5) (E := 114) (sz := 3) (by_ := 40) (by kernel_rfl) (by kernel_rfl) (by kernel_rfl) (by omega)) ?_
  refine Gn [32, 9, 28, 29, 33, 34, 35] [1, 2, 23, 34, 42, 46] ?_
  refine GI_set (m := 1) (kd := false) 3 (.tmp 46) (.tmp 34) (o6 + j5 * 3) (nt (f17 - n)) [nt (f17 - n)] none (by kernel_rfl) (by kernel_rfl) (by kernel_rfl) (by kernel_rfl) (At.blk hat6) (by kernel_rfl) (by kernel_rfl) rfl (by have h1 := At.room hat6; have h2 := At.le hat6; rw [List.length_map] at h2; omega) (by simp [Value.oneCell']) K14 (fun hh => rfl) ?_
  intro w19 hn20 hk21 hz22 K24
  obtain ⟨hat23, hlhx25, hx25⟩ := At.st1 (y := (DE.mk (f17 - n) g17 A17 c17 l17 : DE)) (k := 0) hat6 hx16 (by omega) (by simp [DE.cells, over]) hn20
  have hsz26 := Keep.size hk21
  replace hx := hx.k1 hk21
  replace hsl17 := hsl17.keep hk21 (fun q hq hs => by have hs : q = b6 := hs; have g0 := hsw17 q hq; have g1 := hsx17 q hq; omega)
  replace hK0 := Keep.fresh hK0 hk21 (by intro i hi hs; have hs2 : i = b6 := hs; first | (exfalso; omega) | (rw [hs2]; exact (hdx.own _ ⟨_, rfl, rfl⟩).1))
  replace hall := DAll.keep hall hk21 (fun q h1 h2 h3 hs => by have hs : q = b6 := hs; exact h3 (hs ▸ ⟨_, rfl, rfl⟩))
  have hst27 := de_at hacc hx16
  have ht27 : tot (xs.set j5 (Acc.mk (f17 - n) g17)) = tot xs + ((f17 - n) + g17) - (f17 + g17) := tot_set _ hst27
  have hinv27 : Inv (xs.set j5 (Acc.mk (f17 - n) g17)) := Inv.set hinv hst27 _ (by show 0 ≤ (f17 - n); omega) (by show 0 ≤ g17; omega) (by show tot xs + ((f17 - n) + g17) - (f17 + g17) ≤ 1073741824; omega)
  replace hacc := map_set (j := j5) hacc (f17 - n) g17 A17 c17 l17
  replace hall := DAll.set hall hx16 (f17 - n) g17
  have hw28 : IntKind.i64.wrap (g17 + n) = g17 + n := wrp
  refine Gs [33, 34, 35] [(23, sl_ b6 o6 ds.length cap), (24, nt a), (44, nt (IntKind.i64.wrap (g17 + n)))] ?_
  refine GI_eq [(23, sl_ b6 o6 ds.length cap), (24, nt a), (44, nt (g17 + n))] (by rw [hw28]) ?_
  refine Gp_ [(23, sl_ b6 o6 ds.length cap), (24, nt a), (44, nt (g17 + n))] ?_
  refine GI_eq [(23, sl_ b6 o6 ds.length cap), (24, nt (j5 : Int)), (44, nt (g17 + n))] (by rw [hj5]) ?_
  refine GI_pure (some 47) (.indexAddr 109 (.tmp 23) (.tmp 24)) (by kernel_rfl) (by kernel_rfl) (pure_idxN (b := b6) (o := o6) (len := ds.length) (cap := cap) (kd := .i64) (j := j5) (E := 114) (sz := 3) (by_ := 40) (by kernel_rfl) (by kernel_rfl) (by kernel_rfl) (by omega)) ?_
  refine Gs [35] [(44, nt (g17 + n)), (48, .pointer (some ⟨b6, o6 + j5 * 3 + 1, none⟩))] ?_
  refine GI_final 35 (by kernel_rfl) (by kernel_rfl) ?_
  refine Tss1 (DE.mk (f17 - n) (g17 + n) A17 c17 l17 : DE) 1 (nt (g17 + n)) hat23 hx25 (by simp [DE.cells, over]) ?_
  intro w29 hat33 hk31 hz32 hlhx34 hx34
  have hsz35 := Keep.size hk31
  replace hx := hx.k1 hk31
  replace hsl17 := hsl17.keep hk31 (fun q hq hs => by have hs : q = b6 := hs; have g0 := hsw17 q hq; have g1 := hsx17 q hq; omega)
  replace hK0 := Keep.fresh hK0 hk31 (by intro i hi hs; have hs2 : i = b6 := hs; first | (exfalso; omega) | (rw [hs2]; exact (hdx.own _ ⟨_, rfl, rfl⟩).1))
  replace hall := DAll.keep hall hk31 (fun q h1 h2 h3 hs => by have hs : q = b6 := hs; exact h3 (hs ▸ ⟨_, rfl, rfl⟩))
  have hst36 := de_at hacc hx25
  have ht36 : tot ((xs.set j5 (Acc.mk (f17 - n) g17)).set j5 (Acc.mk (f17 - n) (g17 + n))) = tot (xs.set j5 (Acc.mk (f17 - n) g17)) + ((f17 - n) + (g17 + n)) - ((f17 - n) + g17) := tot_set _ hst36
  have hinv36 : Inv ((xs.set j5 (Acc.mk (f17 - n) g17)).set j5 (Acc.mk (f17 - n) (g17 + n))) := Inv.set hinv27 hst36 _ (by show 0 ≤ (f17 - n); omega) (by show 0 ≤ (g17 + n); omega) (by show tot (xs.set j5 (Acc.mk (f17 - n) g17)) + ((f17 - n) + (g17 + n)) - ((f17 - n) + g17) ≤ 1073741824; omega)
  replace hacc := map_set (j := j5) hacc (f17 - n) (g17 + n) A17 c17 l17
  replace hall := DAll.set hall hx25 (f17 - n) (g17 + n)
  rw [List.set_set (α := DE)] at hacc hall
  refine Oer ?_
  refine Ose [(6, nt 0)] ?_
  refine V_ret ?_
  exact X_return (nt 0) rfl ⟨by rw [hc4], ⟨F, by rw [show resX xs cs a n = addH (subF xs a n) a n from by unfold resX; rw [if_pos hc4], show subF xs a n = _ from by unfold subF; rw [setA_at hj5, acct_at hj5 hst27 hjl5], show addH (xs.set j5 (Acc.mk (f17 - n) g17)) a n = _ from by unfold addH; rw [setA_at hj5, acct_at hj5 hst36 hjl5]]; exact ⟨hinv36, hcl, hFx, fun q hq => Nat.lt_of_lt_of_le (hFlt q hq) (by omega), _, _, _, ⟨by simp only [List.length_set]; exact hx, At.slt hat33, hdx.own, hacc, hall⟩⟩, hF0⟩, hK0⟩
 ·
  refine Gn [23, 24, 25, 26, 27, 10, 11, 12, 13, 14, 15, 16, 17, 0, 1, 2, 3, 4, 5, 6, 7, 8, 18, 19, 30, 31, 32, 9, 28, 29, 33, 34, 35] [0, 1, 2, 37] ?_
  refine Gc 109 (.tmp 37) 0 (sl_ b6 o6 ds.length cap) (some 38) qhx (by show ¬ (_ = _); omega) rfl ?_
  refine Gn [25, 26, 27, 10, 11, 12, 13, 14, 15, 16, 17, 0, 1, 2, 3, 4, 5, 6, 7, 8, 18, 19, 30, 31, 32, 9, 28, 29, 33, 34, 35] [0, 1, 2, 38, 39] ?_
  refine Gp_ [(0, pt x), (1, nt a), (2, nt n), (38, sl_ b6 o6 ds.length cap), (39, nt a)] ?_
  refine GI_eq [(0, pt x), (1, nt a), (2, nt n), (38, sl_ b6 o6 ds.length cap), (39, nt (j5 : Int))] (by rw [hj5]) ?_
  refine GI_pure (some 40) (.indexAddr 109 (.tmp 38) (.tmp 39)) (by kernel_rfl) (by kernel_rfl) (pure_idxN (b := b6) (o := o6) (len := ds.length) (cap := cap) (kd := .i64) (j := j5) (E := 114) (sz := 3) (by_ := 40) (by kernel_rfl) (by kernel_rfl) (by kernel_rfl) (by omega)) ?_
  refine Gs [27, 10, 11, 12, 13, 14, 15, 16, 17, 0, 1, 2, 3, 4, 5, 6, 7, 8, 18, 19, 30, 31, 32, 9, 28, 29, 33, 34, 35] [(0, pt x), (1, nt a), (2, nt n), (41, .pointer (some ⟨b6, o6 + j5 * 3 + 1, none⟩))] ?_
  obtain ⟨x37, hx38⟩ := exAt (xs := ds) (i := j5)
  obtain ⟨f39, g39, A39, c39, l39⟩ := x37
  obtain ⟨hls39, hsl39, hso39⟩ := hall j5 _ hx38
  replace hls39 : l39 = rowL (j5 : Int) cs := hls39
  replace hsl39 : SlT w10 2 lkc A39 c39 l39 := hsl39
  replace hso39 : ∀ q, inA A39 q → _ := hso39
  obtain ⟨hbf39, hbh39, hbt39, _⟩ := hinv.at_ (de_at hacc hx38)
  replace hbf39 : 0 ≤ f39 := hbf39
  replace hbh39 : 0 ≤ g39 := hbh39
  replace hbt39 : f39 + g39 ≤ 1073741824 := hbt39
  have hsw39 : ∀ q, inA A39 q → q ≠ x ∧ q ≠ b6 ∧ q < w.heap.size := fun q hq => ⟨(hso39 q hq).2.1, fun e => (hso39 q hq).2.2 ⟨_, rfl, e⟩, hFlt q (hso39 q hq).1⟩
  have hsx39 := SlT.lt hsl39
  have hac_a : acct xs a = ⟨f39, g39⟩ := by rw [hj5]; exact de_acct hacc hx38 hjl5
  rw [hac_a] at hn3; replace hn3 : n ≤ f39 := hn3
  refine GI_cellA 3 (.tmp 41) (o6 + j5 * 3 + 1) (nt g39) (some 42) (by kernel_rfl) (by kernel_rfl) K14 (by kernel_rfl) hat6.blk (m := 1) (by kernel_rfl) (At.cell hat6 (es_at hx38) rfl) ?_
  refine Gn [13, 14, 15, 16, 17, 0, 1, 2, 3, 4, 5, 6, 7, 8, 18, 19, 30, 31, 32, 9, 28, 29, 33, 34, 35] [0, 1, 2, 27, 42] ?_
  refine Gc 109 (.tmp 27) 0 (sl_ b6 o6 ds.length cap) (some 28) qhx (by show ¬ (_ = _); omega) rfl ?_
  refine Gn [15, 16, 17, 0, 1, 2, 3, 4, 5, 6, 7, 8, 18, 19, 30, 31, 32, 9, 28, 29, 33, 34, 35] [0, 1, 2, 28, 29, 42] ?_
  refine Gp_ [(0, pt x), (1, nt a), (2, nt n), (28, sl_ b6 o6 ds.length cap), (29, nt a), (42, nt g39)] ?_
  refine GI_eq [(0, pt x), (1, nt a), (2, nt n), (28, sl_ b6 o6 ds.length cap), (29, nt (j5 : Int)), (42, nt g39)] (by rw [hj5]) ?_
  refine GI_pure (some 30) (.indexAddr 109 (.tmp 28) (.tmp 29)) (by kernel_rfl) (by kernel_rfl) (pure_idxN (b := b6) (o := o6) (len := ds.length) (cap := cap) (kd := .i64) (j := j5) (E := 114) (sz := 3) (by_ := 40) (by kernel_rfl) (by kernel_rfl) (by kernel_rfl) (by omega)) ?_
  refine Gn [17, 0, 1, 2, 3, 4, 5, 6, 7, 8, 18, 19, 30, 31, 32, 9, 28, 29, 33, 34, 35] [0, 1, 2, 31, 42] ?_
  refine GI_cellA 3 (.tmp 31) (o6 + j5 * 3) (nt f39) (some 32) (by kernel_rfl) (by kernel_rfl) K14 (by kernel_rfl) hat6.blk (m := 1) (by kernel_rfl) (At.cell0 hat6 (es_at hx38) rfl) ?_
  refine Gn [3, 4, 5, 6, 7, 8, 18, 19, 30, 31, 32, 9, 28, 29, 33, 34, 35] [0, 1, 2, 17, 32, 42] ?_
  refine Gc 109 (.tmp 17) 0 (sl_ b6 o6 ds.length cap) (some 18) qhx (by show ¬ (_ = _); omega) rfl ?_
  refine Gn [8, 18, 19, 30, 31, 32, 9, 28, 29, 33, 34, 35] [1, 2, 18, 19, 22, 32, 42] ?_
  refine Gc 109 (.tmp 22) 0 (sl_ b6 o6 ds.length cap) (some 23) qhx (by show ¬ (_ = _); omega) rfl ?_
  have hw40 : IntKind.i64.wrap (f39 - n) = f39 - n := wrp
  refine Gs [30, 31, 32, 9, 28, 29, 33, 34, 35] [(1, nt a), (2, nt n), (18, sl_ b6 o6 ds.length cap), (19, nt a), (23, sl_ b6 o6 ds.length cap), (34, nt (IntKind.i64.wrap (f39 - n))), (42, nt g39)] ?_
  refine GI_eq [(1, nt a), (2, nt n), (18, sl_ b6 o6 ds.length cap), (19, nt a), (23, sl_ b6 o6 ds.length cap), (34, nt (f39 - n)), (42, nt g39)] (by rw [hw40]) ?_
  refine Gp_ [(1, nt a), (2, nt n), (18, sl_ b6 o6 ds.length cap), (19, nt a), (23, sl_ b6 o6 ds.length cap), (34, nt (f39 - n)), (42, nt g39)] ?_
  refine GI_eq [(1, nt a), (2, nt n), (18, sl_ b6 o6 ds.length cap), (19, nt (j5 : Int)), (23, sl_ b6 o6 ds.length cap), (34, nt (f39 - n)), (42, nt g39)] (by rw [hj5]) ?_
  refine GI_pure (some 45) (.indexAddr 109 (.tmp 18) (.tmp 19)) (by kernel_rfl) (by kernel_rfl) (pure_idxN (b := b6) (o := o6) (len := ds.length) (cap := cap) (kd := .i64) (j := j5) (E := 114) (sz := 3) (by_ := 40) (by kernel_rfl) (by kernel_rfl) (by kernel_rfl) (by omega)) ?_
  refine Gn [32, 9, 28, 29, 33, 34, 35] [1, 2, 23, 34, 42, 46] ?_
  refine GI_set (m := 1) (kd := false) 3 (.tmp 46) (.tmp 34) (o6 + j5 * 3) (nt (f39 - n)) [nt (f39 - n)] none (by kernel_rfl) (by kernel_rfl) (by kernel_rfl) (by kernel_rfl) (At.blk hat6) (by kernel_rfl) (by kernel_rfl) rfl (by have h1 := At.room hat6; have h2 := At.le hat6; rw [List.length_map] at h2; omega) (by simp [Value.oneCell']) K14 (fun hh => rfl) ?_
  intro w41 hn42 hk43 hz44 K46
  obtain ⟨hat45, hlhx47, hx47⟩ := At.st1 (y := (DE.mk (f39 - n) g39 A39 c39 l39 : DE)) (k := 0) hat6 hx38 (by omega) (by simp [DE.cells, over]) hn42
  have hsz48 := Keep.size hk43
  replace hx := hx.k1 hk43
  replace hsl39 := hsl39.keep hk43 (fun q hq hs => by have hs : q = b6 := hs; have g0 := hsw39 q hq; have g1 := hsx39 q hq; omega)
  replace hK0 := Keep.fresh hK0 hk43 (by intro i hi hs; have hs2 : i = b6 := hs; first | (exfalso; omega) | (rw [hs2]; exact (hdx.own _ ⟨_, rfl, rfl⟩).1))
  replace hall := DAll.keep hall hk43 (fun q h1 h2 h3 hs => by have hs : q = b6 := hs; exact h3 (hs ▸ ⟨_, rfl, rfl⟩))
  have hst49 := de_at hacc hx38
  have ht49 : tot (xs.set j5 (Acc.mk (f39 - n) g39)) = tot xs + ((f39 - n) + g39) - (f39 + g39) := tot_set _ hst49
  have hinv49 : Inv (xs.set j5 (Acc.mk (f39 - n) g39)) := Inv.set hinv hst49 _ (by show 0 ≤ (f39 - n); omega) (by show 0 ≤ g39; omega) (by show tot xs + ((f39 - n) + g39) - (f39 + g39) ≤ 1073741824; omega)
  replace hacc := map_set (j := j5) hacc (f39 - n) g39 A39 c39 l39
  replace hall := DAll.set hall hx38 (f39 - n) g39
  have hw50 : IntKind.i64.wrap (g39 + n) = g39 + n := wrp
  refine Gs [33, 34, 35] [(23, sl_ b6 o6 ds.length cap), (24, nt a), (44, nt (IntKind.i64.wrap (g39 + n)))] ?_
  refine GI_eq [(23, sl_ b6 o6 ds.length cap), (24, nt a), (44, nt (g39 + n))] (by rw [hw50]) ?_
  refine Gp_ [(23, sl_ b6 o6 ds.length cap), (24, nt a), (44, nt (g39 + n))] ?_
  refine GI_eq [(23, sl_ b6 o6 ds.length cap), (24, nt (j5 : Int)), (44, nt (g39 + n))] (by rw [hj5]) ?_
  refine GI_pure (some 47) (.indexAddr 109 (.tmp 23) (.tmp 24)) (by kernel_rfl) (by kernel_rfl) (pure_idxN (b := b6) (o := o6) (len := ds.length) (cap := cap) (kd := .i64) (j := j5) (E := 114) (sz := 3) (by_ := 40) (by kernel_rfl) (by kernel_rfl) (by kernel_rfl) (by omega)) ?_
  refine Gs [35] [(44, nt (g39 + n)), (48, .pointer (some ⟨b6, o6 + j5 * 3 + 1, none⟩))] ?_
  refine GI_final 35 (by kernel_rfl) (by kernel_rfl) ?_
  refine Tss1 (DE.mk (f39 - n) (g39 + n) A39 c39 l39 : DE) 1 (nt (g39 + n)) hat45 hx47 (by simp [DE.cells, over]) ?_
  intro w51 hat55 hk53 hz54 hlhx56 hx56
  have hsz57 := Keep.size hk53
  replace hx := hx.k1 hk53
  replace hsl39 := hsl39.keep hk53 (fun q hq hs => by have hs : q = b6 := hs; have g0 := hsw39 q hq; have g1 := hsx39 q hq; omega)
  replace hK0 := Keep.fresh hK0 hk53 (by intro i hi hs; have hs2 : i = b6 := hs; first | (exfalso; omega) | (rw [hs2]; exact (hdx.own _ ⟨_, rfl, rfl⟩).1))
  replace hall := DAll.keep hall hk53 (fun q h1 h2 h3 hs => by have hs : q = b6 := hs; exact h3 (hs ▸ ⟨_, rfl, rfl⟩))
  have hst58 := de_at hacc hx47
  have ht58 : tot ((xs.set j5 (Acc.mk (f39 - n) g39)).set j5 (Acc.mk (f39 - n) (g39 + n))) = tot (xs.set j5 (Acc.mk (f39 - n) g39)) + ((f39 - n) + (g39 + n)) - ((f39 - n) + g39) := tot_set _ hst58
  have hinv58 : Inv ((xs.set j5 (Acc.mk (f39 - n) g39)).set j5 (Acc.mk (f39 - n) (g39 + n))) := Inv.set hinv49 hst58 _ (by show 0 ≤ (f39 - n); omega) (by show 0 ≤ (g39 + n); omega) (by show tot (xs.set j5 (Acc.mk (f39 - n) g39)) + ((f39 - n) + (g39 + n)) - ((f39 - n) + g39) ≤ 1073741824; omega)
  replace hacc := map_set (j := j5) hacc (f39 - n) (g39 + n) A39 c39 l39
  replace hall := DAll.set hall hx47 (f39 - n) (g39 + n)
  rw [List.set_set (α := DE)] at hacc hall
  refine Oer ?_
  refine Ose [(6, nt 0)] ?_
  refine V_ret ?_
  exact X_return (nt 0) rfl ⟨by rw [hc4], ⟨F, by rw [show resX xs cs a n = addH (subF xs a n) a n from by unfold resX; rw [if_pos hc4], show subF xs a n = _ from by unfold subF; rw [setA_at hj5, acct_at hj5 hst49 hjl5], show addH (xs.set j5 (Acc.mk (f39 - n) g39)) a n = _ from by unfold addH; rw [setA_at hj5, acct_at hj5 hst58 hjl5]]; exact ⟨hinv58, hcl, hFx, fun q hq => Nat.lt_of_lt_of_le (hFlt q hq) (by omega), _, _, _, ⟨by simp only [List.length_set]; exact hx, At.slt hat55, hdx.own, hacc, hall⟩⟩, hF0⟩, hK0⟩
end Go.Al

namespace Go.Al
open Go Go.RowKit Go.Proofs
def castc (c : Int × Vt) : List Value := nt c.1 :: c.2.cells
def dst (n : Int) : Int := if n = 0 then 1 else n
def pT (x : Option PollS) : PollS := x.getD ⟨0, Tly.zero, 0, 0⟩
def pSt (x : Option PollS) : Int := match x with | none => 0 | some q => dst q.state
def dpc (x : Option PollS) : List Value := [.bool x.isSome, nt (pT x).track, nt (pSt x), nt (pT x).stop, nt (pT x).t.a, nt (pT x).t.n, nt (pT x).t.s]
theorem dpc_len (x : Option PollS) : (dpc x).length = 7 := rfl
def dTo (r : RecS) : Int := (r.d.map DelS.to).getD 0
def dLv (r : RecS) : Int := (r.d.map DelS.level).getD 0
def dN (r : RecS) : Int := (r.d.map DelS.n).getD 0
structure DR where
  A : Option Addr
  cap : Nat
  ls : List (Int × Vt)
  on : Bool
  to : Int
  level : Int
  n : Int
  gv : Int
  gc : Int
  till : Int
  pr : Int
def DR.cells (d : DR) : List Value := [.slice d.A d.ls.length d.cap, .bool d.on, nt d.to, nt d.level, nt d.n, nt d.gv, nt d.gc, nt d.till, nt d.pr]
theorem DR.len (d : DR) : d.cells.length = 9 := rfl
def DR.of (A : Option Addr) (cap : Nat) (ls : List (Int × Vt)) (r : RecS) : DR := ⟨A, cap, ls, r.d.isSome, dTo r, dLv r, dN r, r.got.v, r.got.c, r.till, r.n⟩
def rcJ (s : VS) (j : Nat) : RecS := s.rc ((j / 4 : Nat) : Int) ((j % 4 : Nat) : Int)
def vrJ (s : VS) (j : Nat) : List (Int × Vt) := vrow s ((j / 4 : Nat) : Int) ((j % 4 : Nat) : Int)
def RAll (F : Nat → Prop) (w : World) (y bP bR : Nat) (rs : List DR) (s : VS) : Prop := ∀ (j : Nat) (d : DR), rs[j]? = some d → d = DR.of d.A d.cap (vrJ s j) (rcJ s j) ∧ SlT w 7 castc d.A d.cap (vrJ s j) ∧ ∀ q, inA d.A q → F q ∧ q ≠ y ∧ q ≠ bP ∧ q ≠ bR
structure DvX (F : Nat → Prop) (w : World) (y bP oP cP bR oR cR : Nat) (rs : List DR) (s : VS) : Prop where
  blk : Blk w y [sl_ bP oP 12 cP, sl_ bR oR 40 cR] 134
  pl : ∃ L T, At w bP oP L T 7 cP (s.ps.map dpc)
  rl : ∃ L T, At w bR oR L T 9 cR (rs.map DR.cells)
  ne : y ≠ bP ∧ y ≠ bR ∧ bP ≠ bR
  own : F y ∧ F bP ∧ F bR
  rlen : rs.length = 40
  all : RAll F w y bP bR rs s
def StOk (s : VS) : Prop := ∀ (i : Nat) q, s.ps[i]? = some (some q) → q.state ≠ 1
structure DInv (s : VS) : Prop where
  inv : s.Inv
  trk : TrkOk s
  st : StOk s
  srt : GV.Srt s.cs
theorem DInv.len {s : VS} (h : DInv s) : s.cs.length ≤ 120 := GV.len120 h.srt (fun c hc => by obtain ⟨g1, g2, _⟩ := h.inv.votes c hc; exact ⟨g1, g2⟩)
def DVt (F : Nat → Prop) (w : World) (y : Nat) (s : VS) : Prop := DInv s ∧ (∀ q, F q → q < w.heap.size) ∧ ∃ bP oP cP bR oR cR rs, DvX F w y bP oP cP bR oR cR rs s
section
variable {F S : Nat → Prop} {w w' : World} {y bP oP cP bR oR cR j : Nat} {rs : List DR} {s s' : VS} {d : DR}
theorem DVt.lt (h : DVt F w y s) : ∀ q, F q → q < w.heap.size := h.2.1
theorem DVt.at_ (h : DVt F w y s) : F y := by
  obtain ⟨_, _, _, _, _, _, _, _, _, h⟩ := h; exact h.own.1
theorem RAll.keep (h : RAll F w y bP bR rs s) (k : Keep S w w') (hS : ∀ q, F q → q ≠ y → q ≠ bP → q ≠ bR → ¬ S q) : RAll F w' y bP bR rs s := fun j d hd => by
  obtain ⟨h1, h2, h3⟩ := h j d hd
  exact ⟨h1, h2.keep k (fun q hq => hS q (h3 q hq).1 (h3 q hq).2.1 (h3 q hq).2.2.1 (h3 q hq).2.2.2), h3⟩
theorem DvX.keep (h : DvX F w y bP oP cP bR oR cR rs s) (k : Keep S w w') (hS : ∀ q, F q → ¬ S q) : DvX F w' y bP oP cP bR oR cR rs s :=
  ⟨h.blk.keep k (hS _ h.own.1), (by obtain ⟨L, T, h1⟩ := h.pl; exact ⟨L, T, h1.keep k (hS _ h.own.2.1)⟩), (by obtain ⟨L, T, h1⟩ := h.rl; exact ⟨L, T, h1.keep k (hS _ h.own.2.2)⟩), h.ne, h.own, h.rlen, h.all.keep k (fun q hq _ _ _ => hS q hq)⟩
theorem DVt.keep (h : DVt F w y s) (k : Keep S w w') (hS : ∀ q, F q → ¬ S q) : DVt F w' y s := by
  obtain ⟨h0, h1, bP, oP, cP, bR, oR, cR, rs, h2⟩ := h
  exact ⟨h0, fun q hq => Nat.lt_of_lt_of_le (h1 q hq) k.size, bP, oP, cP, bR, oR, cR, rs, h2.keep k hS⟩
theorem At.quiet9 {α : Type} {b o sz cap N : Nat} {L : List Value} {T : TypeId} {f : α → List Value} {xs : List α} (h : At w b o L T sz cap (xs.map f)) (k : Keep (lb N w) w w') : At w' b o L T sz cap (xs.map f) := ⟨h.blk.quiet k, h.le, h.room, h.cells, h.sizes⟩
theorem DVt.quiet {N : Nat} (h : DVt F w y s) (k : Keep (lb N w) w w') : DVt F w' y s := by
  obtain ⟨h0, h1, bP, oP, cP, bR, oR, cR, rs, h2⟩ := h
  exact ⟨h0, fun q hq => Nat.lt_of_lt_of_le (h1 q hq) k.size, bP, oP, cP, bR, oR, cR, rs, h2.blk.quiet k, (by obtain ⟨L, T, h3⟩ := h2.pl; exact ⟨L, T, h3.quiet9 k⟩), (by obtain ⟨L, T, h3⟩ := h2.rl; exact ⟨L, T, h3.quiet9 k⟩), h2.ne, h2.own, h2.rlen, fun j d hd => ⟨(h2.all j d hd).1, (h2.all j d hd).2.1.quiet k, (h2.all j d hd).2.2⟩⟩
theorem RAll.same (h : RAll F w y bP bR rs s) (h1 : ∀ a t, s'.rc a t = s.rc a t) (h2 : ∀ a t, vrow s' a t = vrow s a t) : RAll F w y bP bR rs s' := fun j d hd => by
  rw [show vrJ s' j = vrJ s j from h2 _ _, show rcJ s' j = rcJ s j from h1 _ _]
  exact h j d hd
theorem RAll.set {F' : Nat → Prop} (h : RAll F w y bP bR rs s) (hF : ∀ q, F q → F' q) (A : Option Addr) (cap : Nat) (hsl : SlT w 7 castc A cap (vrJ s' j)) (hown : ∀ q, inA A q → F' q ∧ q ≠ y ∧ q ≠ bP ∧ q ≠ bR) (hoth : ∀ i, i ≠ j → i < rs.length → vrJ s' i = vrJ s i ∧ rcJ s' i = rcJ s i) {e : DR} (he : e = DR.of A cap (vrJ s' j) (rcJ s' j)) : RAll F' w y bP bR (rs.set j e) s' := fun i d hd => by
  by_cases hij : i = j
  · subst hij
    by_cases hl : i < rs.length
    · rw [List.getElem?_set_self hl] at hd
      simp only [Option.some.injEq] at hd
      subst hd he
      exact ⟨rfl, hsl, hown⟩
    · rw [List.getElem?_eq_none (by rw [List.length_set]; omega)] at hd; cases hd
  · rw [List.getElem?_set_ne (Ne.symm hij)] at hd
    obtain ⟨e1, e2⟩ := hoth i hij (List.getElem?_eq_some_iff.1 hd).1
    rw [e1, e2]
    obtain ⟨h1, h2, h3⟩ := h i d hd
    exact ⟨h1, h2, fun q hq => ⟨hF q (h3 q hq).1, (h3 q hq).2⟩⟩
theorem pollAt_in {i : Nat} {x : Option PollS} (h : s.ps[i]? = some x) (hi : i < 12) : pollAt s (i : Int) = x := by
  unfold pollAt
  rw [if_pos (by omega), Int.toNat_natCast, h]; rfl
theorem pollAt_out {ref : Int} (h : ¬ (0 ≤ ref ∧ ref < 12)) : pollAt s ref = none := if_neg h
end
set_option maxRecDepth 10000 in
theorem dtrack_spec (t : Int) (w : World) : Calls Tryz.prog 81 #[nt t] w fun e w' => e = .returned (.bool (decide (0 ≤ t ∧ t < 4))) ∧ w' = w := by
 refine enterV Tryz.func81 rfl [nt t] 9 rfl rfl rfl ?_
 refine Vr ?_
 refine On 1 [0] ?_
 refine Oer ?_
 refine Os 3 [(0, nt t), (5, .bool (decide (t ≥ 0)))] ?_
 by_cases hg1 : t ≥ 0
 ·
  refine OI_eq [(0, nt t), (5, .bool true)] (by first | simp [hg1] | rfl) ?_
  refine Ose [(2, .bool (decide (t < 4)))] ?_
  refine V_ret ?_
  exact X_return (.bool (decide (t < 4))) rfl ⟨by congr 2; by_cases h1 : 0 ≤ t <;> simp [h1] <;> omega, rfl⟩
 refine OI_eq [(0, nt t), (5, .bool false)] (by first | simp [hg1] | rfl) ?_
 refine Ose [(2, .bool false)] ?_
 refine V_ret ?_
 exact X_return (.bool false) rfl ⟨by congr 2; by_cases h1 : 0 ≤ t <;> simp [h1] <;> omega, rfl⟩
set_option maxRecDepth 10000 in
theorem dhas_spec (F : Nat → Prop) (y : Nat) (s : VS) (ref : Int) (w : World) (h : DVt F w y s) : Calls Tryz.prog 56 #[pt y, nt ref] w fun e w' => e = .returned (.bool (pollAt s ref).isSome) ∧ Keep none_ w w' := by
 obtain ⟨hdi, hFlt, bP, oP, cP, bR, oR, cR, rs, hdv⟩ := h
 obtain ⟨LP, TP, hP⟩ := hdv.pl
 obtain ⟨LR, TR, hR⟩ := hdv.rl
 have hy := hdv.blk
 obtain ⟨hyP, hyR, hPR⟩ := hdv.ne
 have hylt := hy.lt
 have hbPlt := hP.blk.lt
 have hbRlt := hR.blk.lt
 have hpl : s.ps.length = 12 := hdi.inv.len
 have hrl := hdv.rlen
 have hra := hdv.all
 have hF0 : ∀ q, F q → F q ∨ w.heap.size ≤ q := fun _ h => .inl h
 have hK0 : Keep none_ w w := Keep.refl _ _
 have hzhK0 := Keep.size hK0
 refine enterV Tryz.func56 rfl [pt y, nt ref] 21 rfl rfl rfl ?_
 refine Vr ?_
 refine On 1 [0, 1] ?_
 refine Oer ?_
 refine Os 3 [(0, pt y), (1, nt ref), (7, .bool (decide (ref ≥ 0)))] ?_
 by_cases hg1 : ref ≥ 0
 ·
  refine OI_eq [(0, pt y), (1, nt ref), (7, .bool true)] (by first | simp [hg1] | rfl) ?_
  refine Os 7 [(0, pt y), (1, nt ref), (11, .bool (decide (ref < 12)))] ?_
  by_cases hg2 : ref < 12
  ·
   obtain ⟨j3, hj3, hjl3⟩ : ∃ j : Nat, ref = j ∧ j < 12 := ⟨(ref).toNat, by omega, by omega⟩
   refine OI_eq [(0, pt y), (1, nt ref), (11, .bool true)] (by first | simp [hg2] | rfl) ?_
   refine On 10 [1, 11, 14] ?_
   refine Oc 131 (.tmp 14) 0 (sl_ bP oP 12 cP) (some 15) hy rfl ?_
   refine On 12 [11, 15, 16] ?_
   refine Op_ [(11, .bool true), (15, sl_ bP oP 12 cP), (16, nt ref)] ?_
   refine Oq (u := nt ref) (v := nt (j3 : Int)) 16 (by rw [hj3]) ?_
   refine Oi (b := bP) (o := oP) (len := 12) (cap := cP) (j := j3) (some 17) 131 (.tmp 15) (.tmp 16) 171 7 56 .i64 ?_
   refine On 14 [11, 18] ?_
   obtain ⟨x4, hx5⟩ := exAt (xs := s.ps) (i := j3)
   refine Oc 4 (.tmp 18) (oP + j3 * 7) (.bool x4.isSome) (some 19) hP.blk (At.cell0 hP (es_at hx5) rfl) ?_
   refine Ose [(4, .bool x4.isSome)] ?_
   refine V_ret ?_
   exact X_return (.bool x4.isSome) rfl ⟨by rw [hj3, pollAt_in hx5 (by omega)], hK0⟩
  refine OI_eq [(0, pt y), (1, nt ref), (11, .bool false)] (by first | simp [hg2] | rfl) ?_
  refine Ose [(4, .bool false)] ?_
  refine V_ret ?_
  exact X_return (.bool false) rfl ⟨by rw [pollAt_out (by omega)]; rfl, hK0⟩
 refine OI_eq [(0, pt y), (1, nt ref), (7, .bool false)] (by first | simp [hg1] | rfl) ?_
 refine Ose [(4, .bool false)] ?_
 refine V_ret ?_
 exact X_return (.bool false) rfl ⟨by rw [pollAt_out (by omega)]; rfl, hK0⟩
end Go.Al

namespace Go.Al
open Go Go.RowKit Go.Proofs
theorem DInv.setP {s : VS} (h : DInv s) {i : Nat} {q : PollS} (hq : 0 ≤ q.track ∧ q.track < 4) (hs : q.state ≠ 1) : DInv (s.setP i q) := by
  have hg : ∀ (k : Nat) (r : PollS), s.ps[k]? = some (some r) → ∃ r', (s.ps.set i (some q))[k]? = some (some r') := fun k r hk => by
    by_cases e : i = k
    · subst e; exact ⟨q, List.getElem?_set_self (List.getElem?_eq_some_iff.1 hk).1⟩
    · exact ⟨r, by rw [List.getElem?_set_ne e]; exact hk⟩
  refine ⟨⟨by show (s.ps.set i (some q)).length = 12; rw [List.length_set]; exact h.inv.len, fun c hc => ?_, h.inv.dels⟩, h.trk.setP hq, fun k r hk => ?_, h.srt⟩
  · obtain ⟨h1, h2, h3, r, h4⟩ := h.inv.votes c hc
    exact ⟨h1, h2, h3, hg _ _ h4⟩
  · have hk : (s.ps.set i (some q))[k]? = some (some r) := hk
    by_cases e : i = k
    · subst e
      have hl : i < (s.ps.set i (some q)).length := (List.getElem?_eq_some_iff.1 hk).1
      rw [List.getElem?_set_self (by rw [List.length_set] at hl; exact hl)] at hk
      simp only [Option.some.injEq] at hk
      subst hk; exact hs
    · rw [List.getElem?_set_ne e] at hk; exact h.st _ _ hk
theorem vrow_new {s : VS} (hi : s.Inv) {i : Nat} (h : s.ps[i]? = some none) (q : PollS) (a t : Int) : vrow (s.setP i q) a t = vrow s a t := by
  unfold vrow
  refine List.filter_congr fun c hc => ?_
  obtain ⟨k, hk⟩ := List.getElem?_of_mem hc
  obtain ⟨x, hx, _, hb, _⟩ := rowL_mem hk
  obtain ⟨_, _, _, r, hr⟩ := hi.votes x hx
  have hne : i ≠ c.1.toNat := fun e => by rw [hb, ← e, h] at hr; cases hr
  have : trk (s.setP i q) c.1 = trk s c.1 := by unfold trk VS.setP; simp only []; rw [List.getElem?_set_ne hne]
  rw [this]
set_option maxRecDepth 10000 in
theorem dopn_spec (F : Nat → Prop) (y : Nat) (s : VS) (ref t : Int) (w : World) (h : DVt F w y s) : Calls Tryz.prog 58 #[pt y, nt ref, nt t] w fun e w' => e = .returned (nt (openE s ref t)) ∧ (∃ F', DVt F' w' y (openS s ref t) ∧ (∀ q, F' q → F q ∨ w.heap.size ≤ q)) ∧ Keep F w w' := by
 obtain ⟨hdi, hFlt, bP, oP, cP, bR, oR, cR, rs, hdv⟩ := h
 obtain ⟨LP, TP, hP⟩ := hdv.pl
 obtain ⟨LR, TR, hR⟩ := hdv.rl
 have hy := hdv.blk
 obtain ⟨hyP, hyR, hPR⟩ := hdv.ne
 have hylt := hy.lt
 have hbPlt := hP.blk.lt
 have hbRlt := hR.blk.lt
 have hpl : s.ps.length = 12 := hdi.inv.len
 have hrl := hdv.rlen
 have hra := hdv.all
 have hF0 : ∀ q, F q → F q ∨ w.heap.size ≤ q := fun _ h => .inl h
 have hK0 : Keep F w w := Keep.refl _ _
 have hzhK0 := Keep.size hK0
 refine enterV Tryz.func58 rfl [pt y, nt ref, nt t] 34 rfl rfl rfl ?_
 refine Vr ?_
 refine On 1 [0, 1, 2] ?_
 refine Oe ?_
 refine V_seq ?_
 refine Vr ?_
 refine Os 3 [(0, pt y), (1, nt ref), (2, nt t), (9, .bool (decide (ref < 0)))] ?_
 by_cases hg1 : ref < 0
 ·
  refine OI_eq [(0, pt y), (1, nt ref), (2, nt t), (9, .bool true)] (by first | simp [hg1] | rfl) ?_
  refine Ose [(0, pt y), (1, nt ref), (2, nt t), (17, .bool true)] ?_
  refine V_true rfl ?_
  refine Vs [(6, nt 1)] ?_
  refine V_ret ?_
  refine X_ret_then ?_
  have hE : openE s ref t = 1 := by unfold openE; rw [if_pos (by omega)]
  exact X_return _ rfl ⟨by rw [hE], ⟨F, by rw [show openS s ref t = s from by unfold openS; rw [hE]; rfl]; exact ⟨hdi, (fun q hq => Nat.lt_of_lt_of_le (hFlt q hq) (by omega)), _, _, _, _, _, _, _, ⟨hy, ⟨_, _, hP⟩, ⟨_, _, hR⟩, hdv.ne, hdv.own, hdv.rlen, hra⟩⟩, hF0⟩, hK0⟩
 refine OI_eq [(0, pt y), (1, nt ref), (2, nt t), (9, .bool false)] (by first | simp [hg1] | rfl) ?_
 refine Os 7 [(0, pt y), (1, nt ref), (2, nt t), (13, .bool (decide (ref ≥ 12)))] ?_
 by_cases hg2 : ref ≥ 12
 ·
  refine OI_eq [(0, pt y), (1, nt ref), (2, nt t), (13, .bool true)] (by first | simp [hg2] | rfl) ?_
  refine Ose [(0, pt y), (1, nt ref), (2, nt t), (17, .bool true)] ?_
  refine V_true rfl ?_
  refine Vs [(6, nt 1)] ?_
  refine V_ret ?_
  refine X_ret_then ?_
  have hE : openE s ref t = 1 := by unfold openE; rw [if_pos (by omega)]
  exact X_return _ rfl ⟨by rw [hE], ⟨F, by rw [show openS s ref t = s from by unfold openS; rw [hE]; rfl]; exact ⟨hdi, (fun q hq => Nat.lt_of_lt_of_le (hFlt q hq) (by omega)), _, _, _, _, _, _, _, ⟨hy, ⟨_, _, hP⟩, ⟨_, _, hR⟩, hdv.ne, hdv.own, hdv.rlen, hra⟩⟩, hF0⟩, hK0⟩
 obtain ⟨j3, hj3, hjl3⟩ : ∃ j : Nat, ref = j ∧ j < 12 := ⟨(ref).toNat, by omega, by omega⟩
 refine OI_eq [(0, pt y), (1, nt ref), (2, nt t), (13, .bool false)] (by first | simp [hg2] | rfl) ?_
 refine On 8 [0, 1, 2, 13, 14] ?_
 refine Ok (kL 81 #[(.tmp 14)] #[3]) 81 #[nt t] (some 15) (dtrack_spec t _) ?_
 rintro _ w ⟨rfl, rfl⟩
 refine ⟨_, rfl, ?_⟩
 refine Ose [(0, pt y), (1, nt ref), (2, nt t), (17, .bool (!(decide (0 ≤ t ∧ t < 4))))] ?_
 refine V_ifb (!(decide (0 ≤ t ∧ t < 4))) (by kernel_rfl) (fun hc7 => ?_) (fun hc7 => ?_)
 ·
  have htkt : ¬ (0 ≤ t ∧ t < 4) := by have h9 := hc7; simp at h9; omega
  refine Vs [(6, nt 1)] ?_
  refine V_ret ?_
  refine X_ret_then ?_
  have hE : openE s ref t = 1 := by unfold openE; rw [if_pos (by omega)]
  exact X_return _ rfl ⟨by rw [hE], ⟨F, by rw [show openS s ref t = s from by unfold openS; rw [hE]; rfl]; exact ⟨hdi, (fun q hq => Nat.lt_of_lt_of_le (hFlt q hq) (by omega)), _, _, _, _, _, _, _, ⟨hy, ⟨_, _, hP⟩, ⟨_, _, hR⟩, hdv.ne, hdv.own, hdv.rlen, hra⟩⟩, hF0⟩, hK0⟩
 have htkt : (0 ≤ t ∧ t < 4) := by have h9 := hc7; simp at h9; omega
 refine V_skip ?_
 refine X_then ?_
 refine V_seq ?_
 refine Vr ?_
 refine On 3 [0, 1, 2, 20] ?_
 refine Oc 131 (.tmp 20) 0 (sl_ bP oP 12 cP) (some 21) hy rfl ?_
 refine On 5 [0, 1, 2, 21, 22] ?_
 refine Op_ [(0, pt y), (1, nt ref), (2, nt t), (21, sl_ bP oP 12 cP), (22, nt ref)] ?_
 refine Oq (u := nt ref) (v := nt (j3 : Int)) 22 (by rw [hj3]) ?_
 refine Oi (b := bP) (o := oP) (len := 12) (cap := cP) (j := j3) (some 23) 131 (.tmp 21) (.tmp 22) 171 7 56 .i64 ?_
 refine Os 7 [(0, pt y), (1, nt ref), (2, nt t), (24, .pointer (some ⟨bP, oP + j3 * 7, none⟩))] ?_
 obtain ⟨x8, hx9⟩ := exAt (xs := s.ps) (i := j3)
 refine Oc 4 (.tmp 24) (oP + j3 * 7) (.bool x8.isSome) (some 25) hP.blk (At.cell0 hP (es_at hx9) rfl) ?_
 refine Oe ?_
 refine V_ifb (x8.isSome) (by kernel_rfl) (fun hc10 => ?_) (fun hc10 => ?_)
 ·
  obtain ⟨q9, rfl⟩ := Option.isSome_iff_exists.1 hc10
  refine Vs [(6, nt 5)] ?_
  refine V_ret ?_
  refine X_ret_then ?_
  have hE : openE s ref t = 5 := by unfold openE; rw [if_neg (by omega), hj3, pollAt_in hx9 (by omega)]; rfl
  exact X_return _ rfl ⟨by rw [hE], ⟨F, by rw [show openS s ref t = s from by unfold openS; rw [hE]; rfl]; exact ⟨hdi, (fun q hq => Nat.lt_of_lt_of_le (hFlt q hq) (by omega)), _, _, _, _, _, _, _, ⟨hy, ⟨_, _, hP⟩, ⟨_, _, hR⟩, hdv.ne, hdv.own, hdv.rlen, hra⟩⟩, hF0⟩, hK0⟩
 obtain rfl : x8 = none := by simpa using hc10
 refine V_skip ?_
 refine X_then ?_
 refine Vr ?_
 refine On 3 [1, 2, 28] ?_
 refine Oc 131 (.tmp 28) 0 (sl_ bP oP 12 cP) (some 29) hy rfl ?_
 refine On 7 [29, 30, 32] ?_
 refine Op_ [(29, sl_ bP oP 12 cP), (30, nt ref), (32, .agg #[.bool true, nt t, nt 1, nt 0, nt 0, nt 0, nt 0])] ?_
 refine Oq (u := nt ref) (v := nt (j3 : Int)) 30 (by rw [hj3]) ?_
 refine Oi (b := bP) (o := oP) (len := 12) (cap := cP) (j := j3) (some 33) 131 (.tmp 29) (.tmp 30) 171 7 56 .i64 ?_
 refine TsN (m := 7) (some (PollS.mk t Tly.zero 0 0) : (Option PollS)) 0 [.bool true, nt t, nt 1, nt 0, nt 0, nt 0, nt 0] hP hx9 rfl (by kernel_rfl) (by simp [Value.oneCell']) ?_
 intro w11 hat15 hk13 hz14 hlhx16 hx16
 have hsz17 := Keep.size hk13
 replace hy := hy.k1 hk13
 replace hR := hR.k1 hk13
 replace hra := RAll.keep hra hk13 (fun q h1 h2 h3 h4 hs => by have hs : q = bP := hs; first | exact h2 hs | exact h3 hs | exact h4 hs | (have h5 := hFlt q h1; omega))
 replace hK0 := Keep.fresh hK0 hk13 (by intro i hi hs; have hs2 : i = bP := hs; first | exact hs | (exfalso; omega) | (rw [hs2]; first | exact hdv.own.1 | exact hdv.own.2.1 | exact hdv.own.2.2))
 refine Oer ?_
 refine Ose [(6, nt 0)] ?_
 refine V_ret ?_
 have hE : openE s ref t = 0 := by unfold openE; rw [if_neg (by omega), hj3, pollAt_in hx9 (by omega)]; rfl
 exact X_return _ rfl ⟨by rw [hE], ⟨F, by rw [show openS s ref t = s.setP j3 (PollS.mk t Tly.zero 0 0) from by unfold openS; rw [if_pos hE, hj3]; rfl]; exact ⟨hdi.setP (by show 0 ≤ t ∧ t < 4; omega) (by show (0 : Int) ≠ 1; decide), (fun q hq => Nat.lt_of_lt_of_le (hFlt q hq) (by omega)), _, _, _, _, _, _, _, hy, ⟨_, _, hat15⟩, ⟨_, _, hR⟩, hdv.ne, hdv.own, hdv.rlen, RAll.same hra (fun _ _ => rfl) (vrow_new hdi.inv hx9 (PollS.mk t Tly.zero 0 0))⟩, hF0⟩, hK0⟩
end Go.Al

namespace Go.Al
open Go Go.RowKit Go.Proofs
theorem DInv.zero : DInv VS.zero := ⟨⟨rfl, fun c hc => (by cases hc), fun a t d hd => (by cases hd)⟩, TrkOk.zero, fun i q h => (by
  have := List.eq_of_mem_replicate (List.mem_of_getElem? h)
  cases this), List.Pairwise.nil⟩
set_option maxRecDepth 10000 in
theorem dnew_spec (w : World) : Calls Tryz.prog 23 #[] w fun e w' => ∃ y F, e = .returned (pt y) ∧ DVt F w' y VS.zero ∧ Keep none_ w w' ∧ (∀ q, F q → w.heap.size ≤ q) := by
 have hK0 : Keep none_ w w := Keep.refl _ _
 have hzhK0 := Keep.size hK0
 refine enterV Tryz.func23 rfl [] 5 rfl rfl rfl ?_
 refine Vs [] ?_
 refine V_seq ?_
 refine Vd (acts [0, 1, 3]) none_ [[0, 1, 2, 3, 4], [1, 0, 2, 3, 4]] ?_
 intro w2 hk1 he3 L hL4
 have hsz5 := Keep.size hk1
 replace hK0 := hK0.tn hk1
 have K6 : Keep none_ w2 w2 := Keep.refl _ _
 simp only [List.mem_cons, List.not_mem_nil, or_false] at hL4
 rcases hL4 with rfl | rfl
 ·
  refine GI_make (E := 171) (sz := 7) (by_ := 56) (m := 12) (kd := .i64) (zv := .agg #[.bool false, nt 0, nt 0, nt 0, nt 0, nt 0, nt 0]) 131 (.const (Value.int IntKind.i64 12)) (.const (Value.int IntKind.i64 12)) ((List.replicate 12 [.bool false, nt 0, nt 0, nt 0, nt 0, nt 0, nt 0]).flatten) (some 1) (by kernel_rfl) (by kernel_rfl) K6 (by kernel_rfl) (by kernel_rfl) (by kernel_rfl) (by kernel_rfl) (by decide) (by decide) (by kernel_rfl) ?_
  intro b7 w7 e7 hb7 k7 z7 K8
  have hsz9 := Keep.size k7
  replace hK0 := hK0.tn k7
  have hb7lt := hb7.lt
  refine GI_make (E := 235) (sz := 9) (by_ := 88) (m := 40) (kd := .i64) (zv := .agg #[.slice none 0 0, .bool false, nt 0, nt 0, nt 0, nt 0, nt 0, nt 0, nt 0]) 132 (.const (Value.int IntKind.i64 40)) (.const (Value.int IntKind.i64 40)) ((List.replicate 40 [.slice none 0 0, .bool false, nt 0, nt 0, nt 0, nt 0, nt 0, nt 0, nt 0]).flatten) (some 2) (by kernel_rfl) (by kernel_rfl) K8 (by kernel_rfl) (by kernel_rfl) (by kernel_rfl) (by kernel_rfl) (by decide) (by decide) (by kernel_rfl) ?_
  intro b10 w10 e10 hb10 k10 z10 K11
  have hsz12 := Keep.size k10
  replace hb7 := hb7.k0 k10
  replace hK0 := hK0.tn k10
  have hb10lt := hb10.lt
  refine Gn [3, 4] [3] ?_
  refine GI_box 134 (.tmp 3) (.agg #[sl_ b7 0 12 12, sl_ b10 0 40 40]) [sl_ b7 0 12 12, sl_ b10 0 40 40] (some 4) (by kernel_rfl) (by kernel_rfl) K11 (by kernel_rfl) (by kernel_rfl) ?_
  intro b13 w13 e13 hb13 k13 z13 K14
  have hsz15 := Keep.size k13
  replace hb7 := hb7.k0 k13
  replace hb10 := hb10.k0 k13
  replace hK0 := hK0.tn k13
  have hb13lt := hb13.lt
  refine Gs [] [(0, pt b13)] ?_
  refine GI_end ?_
  refine X_then ?_
  refine V_ret ?_
  have hsP : SlT w13 7 dpc (some ⟨b7, 0, none⟩) 12 (List.replicate 12 (none : Option PollS)) := slt_blk (xs := List.replicate 12 (none : Option PollS)) (f := dpc) hb7 dpc_len rfl
  have hsR : SlT w13 9 DR.cells (some ⟨b10, 0, none⟩) 40 (List.replicate 40 (DR.of none 0 [] RecS.zero)) := slt_blk (xs := List.replicate 40 (DR.of none 0 [] RecS.zero)) (f := DR.cells) hb10 DR.len rfl
  obtain ⟨bP9, oP9, LP9, TP9, eP9, hP9⟩ := SlT.open_ hsP (by decide)
  cases eP9
  obtain ⟨bR9, oR9, LR9, TR9, eR9, hR9⟩ := SlT.open_ hsR (by decide)
  cases eR9
  exact X_return _ rfl ⟨b13, (fun q => q = b13 ∨ q = b7 ∨ q = b10), rfl, ⟨DInv.zero, fun q hq => by rcases hq with h | h | h <;> omega, b7, 0, 12, b10, 0, 40, _, ⟨hb13, ⟨_, _, hP9⟩, ⟨_, _, hR9⟩, ⟨by omega, by omega, by omega⟩, ⟨.inl rfl, .inr (.inl rfl), .inr (.inr rfl)⟩, by simp, fun j d hd => by obtain rfl := List.eq_of_mem_replicate (List.mem_of_getElem? hd); exact ⟨rfl, SlT.nil _ _ _, fun q hq => (inA_none hq).elim⟩⟩⟩, hK0, fun q hq => by rcases hq with h | h | h <;> omega⟩
 ·
  refine GI_make (E := 235) (sz := 9) (by_ := 88) (m := 40) (kd := .i64) (zv := .agg #[.slice none 0 0, .bool false, nt 0, nt 0, nt 0, nt 0, nt 0, nt 0, nt 0]) 132 (.const (Value.int IntKind.i64 40)) (.const (Value.int IntKind.i64 40)) ((List.replicate 40 [.slice none 0 0, .bool false, nt 0, nt 0, nt 0, nt 0, nt 0, nt 0, nt 0]).flatten) (some 2) (by kernel_rfl) (by kernel_rfl) K6 (by kernel_rfl) (by kernel_rfl) (by kernel_rfl) (by kernel_rfl) (by decide) (by decide) (by kernel_rfl) ?_
  intro b16 w16 e16 hb16 k16 z16 K17
  have hsz18 := Keep.size k16
  replace hK0 := hK0.tn k16
  have hb16lt := hb16.lt
  refine GI_make (E := 171) (sz := 7) (by_ := 56) (m := 12) (kd := .i64) (zv := .agg #[.bool false, nt 0, nt 0, nt 0, nt 0, nt 0, nt 0]) 131 (.const (Value.int IntKind.i64 12)) (.const (Value.int IntKind.i64 12)) ((List.replicate 12 [.bool false, nt 0, nt 0, nt 0, nt 0, nt 0, nt 0]).flatten) (some 1) (by kernel_rfl) (by kernel_rfl) K17 (by kernel_rfl) (by kernel_rfl) (by kernel_rfl) (by kernel_rfl) (by decide) (by decide) (by kernel_rfl) ?_
  intro b19 w19 e19 hb19 k19 z19 K20
  have hsz21 := Keep.size k19
  replace hb16 := hb16.k0 k19
  replace hK0 := hK0.tn k19
  have hb19lt := hb19.lt
  refine Gn [3, 4] [3] ?_
  refine GI_box 134 (.tmp 3) (.agg #[sl_ b19 0 12 12, sl_ b16 0 40 40]) [sl_ b19 0 12 12, sl_ b16 0 40 40] (some 4) (by kernel_rfl) (by kernel_rfl) K20 (by kernel_rfl) (by kernel_rfl) ?_
  intro b22 w22 e22 hb22 k22 z22 K23
  have hsz24 := Keep.size k22
  replace hb16 := hb16.k0 k22
  replace hb19 := hb19.k0 k22
  replace hK0 := hK0.tn k22
  have hb22lt := hb22.lt
  refine Gs [] [(0, pt b22)] ?_
  refine GI_end ?_
  refine X_then ?_
  refine V_ret ?_
  have hsP : SlT w22 7 dpc (some ⟨b19, 0, none⟩) 12 (List.replicate 12 (none : Option PollS)) := slt_blk (xs := List.replicate 12 (none : Option PollS)) (f := dpc) hb19 dpc_len rfl
  have hsR : SlT w22 9 DR.cells (some ⟨b16, 0, none⟩) 40 (List.replicate 40 (DR.of none 0 [] RecS.zero)) := slt_blk (xs := List.replicate 40 (DR.of none 0 [] RecS.zero)) (f := DR.cells) hb16 DR.len rfl
  obtain ⟨bP9, oP9, LP9, TP9, eP9, hP9⟩ := SlT.open_ hsP (by decide)
  cases eP9
  obtain ⟨bR9, oR9, LR9, TR9, eR9, hR9⟩ := SlT.open_ hsR (by decide)
  cases eR9
  exact X_return _ rfl ⟨b22, (fun q => q = b22 ∨ q = b19 ∨ q = b16), rfl, ⟨DInv.zero, fun q hq => by rcases hq with h | h | h <;> omega, b19, 0, 12, b16, 0, 40, _, ⟨hb22, ⟨_, _, hP9⟩, ⟨_, _, hR9⟩, ⟨by omega, by omega, by omega⟩, ⟨.inl rfl, .inr (.inl rfl), .inr (.inr rfl)⟩, by simp, fun j d hd => by obtain rfl := List.eq_of_mem_replicate (List.mem_of_getElem? hd); exact ⟨rfl, SlT.nil _ _ _, fun q hq => (inA_none hq).elim⟩⟩⟩, hK0, fun q hq => by rcases hq with h | h | h <;> omega⟩
end Go.Al

namespace Go.Al
open Go Go.RowKit Go.Proofs
structure RInv (ts : List Trk) (rs : List Rfm) : Prop where
  inn : RfIn ts rs
  ge : ∀ x ∈ rs, -1 ≤ x.backer ∧ -1 ≤ x.since ∧ -1 ≤ x.till
structure DRX (F : Nat → Prop) (w : World) (z : Nat) (A : Option Addr) (cap : Nat) (B : Option Addr) (capb : Nat) (ts : List Trk) (rs : List Rfm) : Prop where
  blk : Blk w z [.slice A ts.length cap, .slice B rs.length capb] 98
  tl : SlT w 18 Trk.cells A cap ts
  rl : SlT w 45 Rfm.cells B capb rs
  za : ∀ q, inA A q → F q ∧ q ≠ z
  zb : ∀ q, inA B q → F q ∧ q ≠ z
  ab : ∀ q, inA A q → ¬ inA B q
def DRf (F : Nat → Prop) (w : World) (z : Nat) (ts : List Trk) (rs : List Rfm) : Prop := RInv ts rs ∧ F z ∧ (∀ q, F q → q < w.heap.size) ∧ ∃ A cap B capb, DRX F w z A cap B capb ts rs
section
variable {F S : Nat → Prop} {w w' : World} {z : Nat} {ts : List Trk} {rs rs' : List Rfm}
theorem DRf.lt (h : DRf F w z ts rs) : ∀ q, F q → q < w.heap.size := h.2.2.1
theorem DRf.at_ (h : DRf F w z ts rs) : F z := h.2.1
theorem DRf.rinv (h : DRf F w z ts rs) : RInv ts rs := h.1
theorem DRf.keep (h : DRf F w z ts rs) (k : Keep S w w') (hS : ∀ q, F q → ¬ S q) : DRf F w' z ts rs := by
  obtain ⟨h0, h1, h2, A, cap, B, capb, h3⟩ := h
  exact ⟨h0, h1, fun q hq => Nat.lt_of_lt_of_le (h2 q hq) k.size, A, cap, B, capb, ⟨h3.blk.keep k (hS _ h1), h3.tl.keep k (fun q hq => hS q (h3.za q hq).1), h3.rl.keep k (fun q hq => hS q (h3.zb q hq).1), h3.za, h3.zb, h3.ab⟩⟩
theorem DRf.quiet {N : Nat} (h : DRf F w z ts rs) (k : Keep (lb N w) w w') : DRf F w' z ts rs := by
  obtain ⟨h0, h1, h2, A, cap, B, capb, h3⟩ := h
  exact ⟨h0, h1, fun q hq => Nat.lt_of_lt_of_le (h2 q hq) k.size, A, cap, B, capb, ⟨h3.blk.quiet k, h3.tl.quiet k, h3.rl.quiet k, h3.za, h3.zb, h3.ab⟩⟩
end
theorem RInv.nil {ts : List Trk} (h : okTs ts) : RInv ts [] := ⟨⟨h.2.1, h.2.2, Nat.zero_le _, fun x hx => (by cases hx)⟩, fun x hx => (by cases hx)⟩
set_option maxRecDepth 10000 in
theorem rnew12_spec (A : Option Addr) (cap : Nat) (ts : List Trk) (w : World) (hA : SlT w 18 Trk.cells A cap ts) (hok : okTs ts) : Calls Tryz.prog 21 #[.slice A ts.length cap] w fun e w' => ∃ z F, e = .returned (.tuple #[pt z, nt 0]) ∧ DRf F w' z ts [] ∧ Keep none_ w w' ∧ (∀ q, F q → w.heap.size ≤ q) := by
 have hAlt := SlT.lt hA
 have hok1 := hok.1
 have hok2 := hok.2.1
 have hK0 : Keep none_ w w := Keep.refl _ _
 have hzhK0 := Keep.size hK0
 refine enterV Tryz.func21 rfl [.slice A ts.length cap] 30 rfl rfl rfl ?_
 refine Vr ?_
 refine On 2 [0] ?_
 refine Oe ?_
 refine V_seq ?_
 refine Vr ?_
 refine Os 4 [(0, .slice A ts.length cap), (8, .bool (decide ((ts.length : Int) < 1)))] ?_
 refine Oq (u := .bool (decide ((ts.length : Int) < 1))) (v := .bool false) 8 (by rw [decide_eq_false (by omega : ¬ ((ts.length : Int) < 1))]) ?_
 refine Ose [(0, .slice A ts.length cap), (12, .bool (decide ((ts.length : Int) > 4)))] ?_
 refine V_pick [(0, .slice A ts.length cap), (12, .bool (decide ((ts.length : Int) > 4)))] rfl ?_
 refine V_eq [(0, .slice A ts.length cap), (12, .bool false)] (by rw [decide_eq_false (by omega : ¬ ((ts.length : Int) > 4))]) ?_
 refine V_false rfl ?_
 refine V_skip ?_
 refine X_then ?_
 refine V_seq ?_
 refine Vs [(0, .slice A ts.length cap), (4, nt 0)] ?_
 refine V_block ?_
 refine V_pick [(0, .slice A ts.length cap), (4, nt 0)] rfl ?_
 refine V_loop (fun k wI e => ∃ i : Nat, (k + i = ts.length) ∧ Keep none_ w wI ∧ e = [(0, .slice A ts.length cap), (4, nt (i : Int))]) ts.length ⟨0, rfl, Keep.refl _ _, rfl⟩ ?_
 rintro k4 w3 _ ⟨i, hki, hk5, rfl⟩
 have hsz6 := Keep.size hk5
 replace hA := hA.keep0 hk5
 replace hK0 := hK0.tn hk5
 have hzhk5 := Keep.size hk5
 refine V_seq ?_
 refine Vs [(0, .slice A ts.length cap), (4, nt (i : Int)), (16, .bool (decide ((i : Int) < (ts.length : Int))))] ?_
 refine V_if ((i : Int) < (ts.length : Int)) (by kernel_rfl) (fun hc7 => ?_) (fun hc7 => ?_)
 ·
  refine V_skip ?_
  refine X_then ?_
  refine V_seq ?_
  refine V_block ?_
  refine Vr ?_
  refine On 2 [0, 4, 19, 20] ?_
  obtain ⟨b8, o8, L8, T8, rfl, hat8⟩ := SlT.opn hA
  have hb8lt := hat8.blk.lt
  have hob9 := hAlt b8 ⟨_, rfl, rfl⟩
  refine Oi (b := b8) (o := o8) (len := ts.length) (cap := cap) (j := i) (some 21) 67 (.tmp 19) (.tmp 20) 80 18 144 .i64 ?_
  obtain ⟨x10, hx11⟩ := exAt (xs := ts) (i := i)
  have hokx : okTrk x10 := hok.2.2 x10 (List.mem_of_getElem? hx11)
  refine Oa 80 (.tmp 21) (o8 + i * 18) (Trk.cells x10) (some 22) 18 hat8.blk (At.elem' hat8 (es_at hx11)) (At.len hat8 (es_at hx11)) ?_
  refine Ok (kL 47 #[(.tmp 22)] #[80]) 47 #[.agg (Trk.cells x10).toArray] (some 23) (r10Is_spec x10 _) ?_
  rintro _ w12 ⟨rfl, hk13⟩
  refine ⟨_, rfl, ?_⟩
  have hsz14 := Keep.size hk13
  replace hat8 := hat8.keep hk13 id
  replace hK0 := hK0.tn hk13
  replace hk5 := hk5.tn hk13
  refine Ose [(0, sl_ b8 o8 ts.length cap), (4, nt (i : Int)), (24, .bool (!(decide (okTrk x10))))] ?_
  refine V_pick [(0, sl_ b8 o8 ts.length cap), (4, nt (i : Int)), (24, .bool (!(decide (okTrk x10))))] rfl ?_
  refine V_eq [(0, sl_ b8 o8 ts.length cap), (4, nt (i : Int)), (24, .bool false)] (by rw [decide_eq_true hokx]; rfl) ?_
  refine V_false rfl ?_
  refine V_skip ?_
  refine X_block ?_
  refine X_then ?_
  refine V_region ?_
  have hw16 : IntKind.i64.wrap ((i : Int) + 1) = ((i + 1 : Nat) : Int) := wrp
  refine Os 2 [(0, sl_ b8 o8 ts.length cap), (18, nt (IntKind.i64.wrap ((i : Int) + 1)))] ?_
  refine Oq (u := nt (IntKind.i64.wrap ((i : Int) + 1))) (v := nt ((i + 1 : Nat) : Int)) 18 (by rw [hw16]) ?_
  refine Os 3 [(0, sl_ b8 o8 ts.length cap), (4, nt ((i + 1 : Nat) : Int))] ?_
  refine OI_end rfl ?_
  exact V_again (k4 - 1) (by omega) [(0, sl_ b8 o8 ts.length cap), (4, nt ((i + 1 : Nat) : Int))] rfl ⟨i + 1, by omega, hk5, rfl⟩
 refine V_exit ?_
 refine X_exit_then ?_
 refine X_exit_then ?_
 refine X_exit_here ?_
 refine X_then ?_
 refine Vr ?_
 refine OI_slit (E := 80) (zv := .agg #[nt 0, nt 0, nt 0, nt 0, nt 0, nt 0, nt 0, nt 0, nt 0, nt 0, nt 0, nt 0, nt 0, nt 0, nt 0, nt 0, nt 0, nt 0]) (sz := 18) (by_ := 144) 67 0 #[] [] [] (some 25) (by kernel_rfl) (by kernel_rfl) (by kernel_rfl) (by omega) rfl (by omega) (by intro v hv; cases hv) (by kernel_rfl) rfl ?_
 intro b17 w17 e17 hb17 k17 z17
 have hsz18 := Keep.size k17
 replace hA := hA.keep0 k17
 replace hK0 := hK0.tn k17
 have hb17lt := hb17.lt
 refine Os 2 [(25, sl_ b17 0 0 0), (26, .slice A ts.length cap)] ?_
 have hl19 : ts.length = ts.length := rfl
 have hy19 := SlT.slr hA
 refine OI_append (t := 67) (at2 := 67) (E := 80) (E2 := 80) (sz := 18) (by_ := 144) (zv := .agg #[nt 0, nt 0, nt 0, nt 0, nt 0, nt 0, nt 0, nt 0, nt 0, nt 0, nt 0, nt 0, nt 0, nt 0, nt 0, nt 0, nt 0, nt 0]) (m := ([] : List Trk).length) (k := ts.length) (.tmp 25) (.tmp 26) (sl_ b17 0 0 0) (.slice A ts.length cap) (some 27) (by kernel_rfl) (by kernel_rfl) (by kernel_rfl) (by kernel_rfl) (by kernel_rfl) (by kernel_rfl) (by kernel_rfl) (SlT.slr (slt_blk (xs := ([] : List Trk)) (f := Trk.cells) (sz := 18) hb17 Trk.len rfl)) hy19 (fun u hu => by obtain ⟨z, _, hz⟩ := List.mem_flatMap.1 hu; exact Trk.one z u hz) (by first | omega | ((repeat first | rw [List.length_append] | rw [List.length_cons] | rw [List.length_nil] | rw [List.length_take] | rw [List.length_drop]) <;> omega)) (by omega) (by first | omega | ((repeat first | rw [List.length_append] | rw [List.length_cons] | rw [List.length_nil] | rw [List.length_take] | rw [List.length_drop]) <;> omega)) (by omega) ?_
 intro vv9 w19 hap
 obtain ⟨A19, cap19, rfl, hA19, hk19, own19x⟩ := app_many (f := Trk.cells) (xs := ([] : List Trk)) (ys := ts) (A := (some ⟨b17, 0, none⟩)) (cap := 0) hap hl19 Trk.len
 replace hk19 : Keep (only b17) w17 w19 := hk19.mono (fun i _ h => inA_some h)
 have own19 : ∀ q, inA A19 q → w.heap.size ≤ q := fun q hq => by rcases own19x q hq with h | h; (have h9 := inA_some h; show w.heap.size ≤ q; omega); (show w.heap.size ≤ q; omega)
 rw [List.nil_append] at hA19
 have hsz20 := Keep.size hk19
 replace hA := hA.keep hk19 (fun q hq hs => by have hs : q = b17 := hs; have g1 := hAlt q hq; omega)
 replace hK0 := Keep.fr hK0 hk19
 have lt19 := SlT.lt hA19
 have hcap19 := SlT.cap_le hA19
 refine On 4 [28] ?_
 refine OI_box 98 (.tmp 28) (.agg #[.slice A19 ts.length cap19, .slice none 0 0]) [.slice A19 ts.length cap19, .slice none 0 0] (some 29) (by kernel_rfl) (by kernel_rfl) (by kernel_rfl) ?_
 intro b21 w21 e21 hb21 k21 z21
 have hsz22 := Keep.size k21
 replace hA := hA.keep0 k21
 replace hA19 := hA19.keep0 k21
 replace hK0 := hK0.tn k21
 have hb21lt := hb21.lt
 refine Ose [(2, pt b21), (3, nt 0)] ?_
 refine V_ret ?_
 exact X_return _ rfl ⟨b21, (fun q => q = b21 ∨ inA A19 q), rfl, ⟨RInv.nil hok, .inl rfl, (fun q hq => by rcases hq with h | h; omega; (have h1 := lt19 q h; omega)), A19, cap19, none, 0, ⟨hb21, hA19, SlT.nil _ _ _, (fun q h => ⟨.inr h, by have h1 := own19 q h; have h2 := lt19 q h; omega⟩), (fun q h => (inA_none h).elim), fun q _ h => inA_none h⟩⟩, hK0, fun q hq => by rcases hq with h | h; omega; (have h1 := own19 q h; omega)⟩
end Go.Al

namespace Go.Al
open Go Go.RowKit Go.Proofs
theorem dng_at {rs : List Rfm} {j : Nat} {x : Rfm} (h : rs[j]? = some x) : ongE rs (j : Int) = (if x.state = 1 then 0 else 9) ∧ getR rs (j : Int) = some x ∧ getA rs (j : Int) = x := by
  have hl := (List.getElem?_eq_some_iff.1 h).1
  have e : getR rs (j : Int) = some x := by unfold getR; rw [if_pos ⟨by omega, by omega⟩, Int.toNat_natCast, h]
  exact ⟨by unfold ongE; rw [e], e, by unfold getA; rw [e]; rfl⟩
end Go.Al

namespace Go.Al
open Go Go.RowKit Go.Proofs
theorem RInv.set {ts : List Trk} {rs : List Rfm} (h : RInv ts rs) {j : Nat} {y : Rfm} (h1 : 0 ≤ y.track ∧ y.track < ts.length) (h2 : -1 ≤ y.backer ∧ -1 ≤ y.since ∧ -1 ≤ y.till) : RInv ts (rs.set j y) :=
  ⟨⟨h.inn.tl, h.inn.tok, by rw [List.length_set]; exact h.inn.rl, fun x hx => by
    rcases List.mem_or_eq_of_mem_set hx with hx | rfl
    · exact h.inn.rtk x hx
    · exact h1⟩, fun x hx => by
    rcases List.mem_or_eq_of_mem_set hx with hx | rfl
    · exact h.ge x hx
    · exact h2⟩
end Go.Al

namespace Go.Al
open Go Go.RowKit Go.Proofs
section
variable {xs : List Acc} {cs : List Ci} {s : VS} {ts : List Trk} {rs : List Rfm} {who of after : Int}
theorem subE_bad (h : isA who = false ∨ ¬ (0 ≤ of ∧ of < ts.length) ∨ after < 0 ∨ after > 1000) : subE xs cs s ts rs who of after = 1 := by
  unfold subE
  rw [if_pos]
  rcases h with h | h | h
  · unfold isA at h; rw [decide_eq_false_iff_not] at h; omega
  · left; unfold trkO; rw [if_neg h]; rfl
  · omega
theorem subE_ok (h1 : isA who = true) (h2 : 0 ≤ of ∧ of < ts.length) (h3 : ¬ (after < 0 ∨ after > 1000)) : subE xs cs s ts rs who of after = if rs.length ≥ 12 then 3 else if (pollAt s rs.length).isSome then 5 else spendsE xs cs who 10 := by
  unfold isA at h1; rw [decide_eq_true_eq] at h1
  refine subEx ?_ (by omega)
  unfold trkO
  rw [if_pos h2, List.getElem?_eq_getElem (by omega)]; rfl
theorem RInv.snoc {x : Rfm} (h : RInv ts rs) (h1 : 0 ≤ x.track ∧ x.track < ts.length) (h2 : -1 ≤ x.backer ∧ -1 ≤ x.since ∧ -1 ≤ x.till) (h3 : rs.length < 12) : RInv ts (rs ++ [x]) :=
  ⟨⟨h.inn.tl, h.inn.tok, by rw [List.length_append, List.length_singleton]; omega, fun y hy => by
    rcases List.mem_append.1 hy with hy | hy
    · exact h.inn.rtk y hy
    · rw [List.mem_singleton.1 hy]; exact h1⟩, fun y hy => by
    rcases List.mem_append.1 hy with hy | hy
    · exact h.ge y hy
    · rw [List.mem_singleton.1 hy]; exact h2⟩
end
theorem DRf.snoc {H : Nat → Prop} {w0 w : World} {z N cap cap2 cap3 : Nat} {A B A2 : Option Addr} {ts : List Trk} {rs rs' : List Rfm} (hdz : DRX H w0 z A cap B cap2 ts rs) (hri : RInv ts rs') (hHz : H z) (hlt : ∀ q, H q → q < N) (hN : N ≤ w.heap.size)
    (hz : Blk w z [.slice A ts.length cap, .slice A2 rs'.length cap3] 98) (hA : SlT w 18 Trk.cells A cap ts) (hB : SlT w 45 Rfm.cells A2 cap3 rs') (hx : ∀ q, inA A2 q → inA B q ∨ N ≤ q) : ∃ H', DRf H' w z ts rs' ∧ ∀ q, H' q → H q ∨ N ≤ q := by
  have hf : ∀ q, (H q ∨ inA A2 q) → H q ∨ N ≤ q := fun q h => by
    rcases h with h | h
    · exact .inl h
    · exact (hx q h).imp (fun h => (hdz.zb q h).1) id
  refine ⟨fun q => H q ∨ inA A2 q, ⟨hri, .inl hHz, fun q h => ?_, A, cap, A2, cap3, ⟨hz, hA, hB, fun q h => ⟨.inl (hdz.za q h).1, (hdz.za q h).2⟩, fun q h => ⟨.inr h, ?_⟩, fun q h1 h2 => ?_⟩⟩, hf⟩
  · rcases h with h | h
    · exact Nat.lt_of_lt_of_le (hlt q h) hN
    · exact SlT.lt hB q h
  · rcases hx q h with h | h
    · exact (hdz.zb q h).2
    · have := hlt z hHz; omega
  · rcases hx q h2 with h | h
    · exact hdz.ab q h1 h
    · have := hlt q (hdz.za q h1).1; omega
set_option maxRecDepth 10000 in
set_option maxHeartbeats 1000000 in
theorem rsub12_spec (H : Nat → Prop) (z : Nat) (ts : List Trk) (rs : List Rfm) (F : Nat → Prop) (y : Nat) (s : VS) (G : Nat → Prop) (x : Nat) (xs : List Acc) (cs : List Ci) (who of : Int) (sum : Nat → Int) (after now : Int) (w : World) (h : DRf H w z ts rs) (hV : DVt F w y s) (hl : DLd G w x xs cs) (hHF : ∀ q, H q → ¬ F q) (hHG : ∀ q, H q → ¬ G q) (hFG : ∀ q, F q → ¬ G q) : Calls Tryz.prog 25 #[pt z, pt x, pt y, nt who, nt of, .agg (hshc sum).toArray, nt after, nt now] w fun e w' => e = .returned (.tuple #[nt (if subE xs cs s ts rs who of after = 0 then (rs.length : Int) else 0), nt (subE xs cs s ts rs who of after)]) ∧ (∃ H' F' G', DRf H' w' z ts (subR xs cs s ts rs who of after sum now) ∧ DVt F' w' y (subS xs cs s ts rs who of after) ∧ DLd G' w' x (subX xs cs s ts rs who of after) cs ∧ (∀ q, H' q → H q ∨ w.heap.size ≤ q) ∧ (∀ q, F' q → F q ∨ w.heap.size ≤ q) ∧ (∀ q, G' q → G q ∨ w.heap.size ≤ q) ∧ (∀ q, H' q → ¬ F' q) ∧ (∀ q, H' q → ¬ G' q) ∧ (∀ q, F' q → ¬ G' q)) ∧ Keep (fun q => H q ∨ F q ∨ G q) w w' := by
 have hHlt := DRf.lt h
 have hzlt := hHlt _ (DRf.at_ h)
 have hHr : ∀ q, H q → H q ∨ w.heap.size ≤ q := fun _ h => .inl h
 have hFlt := DVt.lt hV
 have hylt := hFlt _ (DVt.at_ hV)
 have hFr : ∀ q, F q → F q ∨ w.heap.size ≤ q := fun _ h => .inl h
 have hGlt := DLd.lt hl
 have hxlt := hGlt _ (DLd.at_ hl)
 have hGr : ∀ q, G q → G q ∨ w.heap.size ≤ q := fun _ h => .inl h
 have hK0 : Keep (fun q => H q ∨ F q ∨ G q) w w := Keep.refl _ _
 have hzhK0 := Keep.size hK0
 refine enterV Tryz.func25 rfl [pt z, pt x, pt y, nt who, nt of, .agg (hshc sum).toArray, nt after, nt now] 91 rfl rfl rfl ?_
 refine Vr ?_
 refine OI_box 40 (.tmp 5) (.agg (hshc sum).toArray) (hshc sum) (some 13) (by kernel_rfl) (by kernel_rfl) rfl ?_
 intro b1 w1 e1 hb1 k1 z1
 have hsz2 := Keep.size k1
 replace h := DRf.keep h k1 nk
 replace hV := DVt.keep hV k1 nk
 replace hl := DLd.keep hl k1 nk
 replace hK0 := hK0.tn k1
 have hb1lt := hb1.lt
 refine On 3 [0, 1, 2, 3, 4, 6, 7, 13] ?_
 refine Oe ?_
 refine V_seq ?_
 refine V_block ?_
 refine Vr ?_
 refine On 1 [0, 1, 2, 3, 4, 6, 7, 13, 21] ?_
 refine Ok (kL 55 #[(.tmp 21)] #[3]) 55 #[nt who] (some 22) (is6_spec who _) ?_
 rintro _ w1 ⟨rfl, rfl⟩
 refine ⟨_, rfl, ?_⟩
 refine Os 4 [(0, pt z), (1, pt x), (2, pt y), (3, nt who), (4, nt of), (6, nt after), (7, nt now), (13, pt b1), (24, .bool (!(isA who)))] ?_
 cases hg6 : (!(isA who))
 ·
  refine OI_eq [(0, pt z), (1, pt x), (2, pt y), (3, nt who), (4, nt of), (6, nt after), (7, nt now), (13, pt b1), (24, .bool false)] (by first | rfl | rw [hg6]) ?_
  refine Os 8 [(0, pt z), (1, pt x), (2, pt y), (3, nt who), (4, nt of), (6, nt after), (7, nt now), (13, pt b1), (28, .bool (decide (of < 0)))] ?_
  by_cases hg7 : of < 0
  ·
   refine OI_eq [(0, pt z), (1, pt x), (2, pt y), (3, nt who), (4, nt of), (6, nt after), (7, nt now), (13, pt b1), (28, .bool true)] (by first | simp [hg7] | rfl) ?_
   refine Ose [(0, pt z), (1, pt x), (2, pt y), (3, nt who), (4, nt of), (6, nt after), (7, nt now), (13, pt b1), (20, .bool true)] ?_
   refine V_true rfl ?_
   refine Vs [(16, nt 0), (17, nt 1)] ?_
   refine V_ret ?_
   refine X_ret_block ?_
   refine X_ret_then ?_
   have hE8 : subE xs cs s ts rs who of after = 1 := subE_bad (.inr (by omega))
   obtain ⟨h18, h28, h38⟩ := sub_no hE8 (by decide)
   exact X_return (.tuple #[nt 0, nt 1]) rfl ⟨by rw [hE8]; rfl, ⟨H, F, G, (by rw [h38]; exact h), (by rw [h28]; exact hV), (by rw [h18]; exact hl), hHr, hFr, hGr, hHF, hHG, hFG⟩, hK0⟩
  refine OI_eq [(0, pt z), (1, pt x), (2, pt y), (3, nt who), (4, nt of), (6, nt after), (7, nt now), (13, pt b1), (28, .bool false)] (by first | simp [hg7] | rfl) ?_
  refine On 12 [0, 1, 2, 3, 4, 6, 7, 13, 28, 29, 32] ?_
  obtain ⟨hrv9, hHz9, hHlt9, A9, cap9, B9, capb9, hdz9⟩ := h
  have hz9 := hdz9.blk
  have hA9 := hdz9.tl
  have hB9 := hdz9.rl
  have hz9lt := hHlt _ hHz9
  have hrl9 := hrv9.inn.rl
  have htl9 := hrv9.inn.tl
  have owA9 : ∀ q, inA A9 q → q ≠ z ∧ q ≠ b1 := fun q hq => by obtain ⟨h1, h4⟩ := hdz9.za q hq; have h2 := hHlt q h1; omega
  have ltA9 := fun q (hq : inA A9 q) => hHlt q (hdz9.za q hq).1
  have owB9 : ∀ q, inA B9 q → q ≠ z ∧ q ≠ b1 := fun q hq => by obtain ⟨h1, h4⟩ := hdz9.zb q hq; have h2 := hHlt q h1; omega
  have ltB9 := fun q (hq : inA B9 q) => hHlt q (hdz9.zb q hq).1
  have own10 : ∀ q, F q → q ≠ z := fun q hq e => hHF z hHz9 (by rw [← e]; exact hq)
  have own11 : ∀ q, G q → q ≠ z := fun q hq e => hHG z hHz9 (by rw [← e]; exact hq)
  refine Oc 67 (.tmp 32) 0 (.slice A9 ts.length cap9) (some 33) hz9 rfl ?_
  refine Os 17 [(0, pt z), (1, pt x), (2, pt y), (3, nt who), (4, nt of), (6, nt after), (7, nt now), (13, pt b1), (37, .bool (decide (of ≥ (ts.length : Int))))] ?_
  by_cases hg12 : of ≥ (ts.length : Int)
  ·
   refine OI_eq [(0, pt z), (1, pt x), (2, pt y), (3, nt who), (4, nt of), (6, nt after), (7, nt now), (13, pt b1), (37, .bool true)] (by first | simp [hg12] | rfl) ?_
   refine Ose [(0, pt z), (1, pt x), (2, pt y), (3, nt who), (4, nt of), (6, nt after), (7, nt now), (13, pt b1), (20, .bool true)] ?_
   refine V_true rfl ?_
   refine Vs [(16, nt 0), (17, nt 1)] ?_
   refine V_ret ?_
   refine X_ret_block ?_
   refine X_ret_then ?_
   have hE13 : subE xs cs s ts rs who of after = 1 := subE_bad (.inr (by omega))
   obtain ⟨h113, h213, h313⟩ := sub_no hE13 (by decide)
   have ho14 : DRf H w1 z ts rs := ⟨hrv9, hHz9, (fun q hq => Nat.lt_of_lt_of_le (hHlt9 q hq) (by omega)), _, _, _, _, ⟨by (try simp only [List.length_set]); exact hz9, hA9, hB9, hdz9.za, hdz9.zb, hdz9.ab⟩⟩
   exact X_return (.tuple #[nt 0, nt 1]) rfl ⟨by rw [hE13]; rfl, ⟨H, F, G, (by rw [h313]; exact ho14), (by rw [h213]; exact hV), (by rw [h113]; exact hl), hHr, hFr, hGr, hHF, hHG, hFG⟩, hK0⟩
  refine OI_eq [(0, pt z), (1, pt x), (2, pt y), (3, nt who), (4, nt of), (6, nt after), (7, nt now), (13, pt b1), (37, .bool false)] (by first | simp [hg12] | rfl) ?_
  refine Os 21 [(0, pt z), (1, pt x), (2, pt y), (3, nt who), (4, nt of), (6, nt after), (7, nt now), (13, pt b1), (41, .bool (decide (after < 0)))] ?_
  by_cases hg15 : after < 0
  ·
   refine OI_eq [(0, pt z), (1, pt x), (2, pt y), (3, nt who), (4, nt of), (6, nt after), (7, nt now), (13, pt b1), (41, .bool true)] (by first | simp [hg15] | rfl) ?_
   refine Ose [(0, pt z), (1, pt x), (2, pt y), (3, nt who), (4, nt of), (6, nt after), (7, nt now), (13, pt b1), (20, .bool true)] ?_
   refine V_true rfl ?_
   refine Vs [(16, nt 0), (17, nt 1)] ?_
   refine V_ret ?_
   refine X_ret_block ?_
   refine X_ret_then ?_
   have hE16 : subE xs cs s ts rs who of after = 1 := subE_bad (.inr (by omega))
   obtain ⟨h116, h216, h316⟩ := sub_no hE16 (by decide)
   have ho17 : DRf H w1 z ts rs := ⟨hrv9, hHz9, (fun q hq => Nat.lt_of_lt_of_le (hHlt9 q hq) (by omega)), _, _, _, _, ⟨by (try simp only [List.length_set]); exact hz9, hA9, hB9, hdz9.za, hdz9.zb, hdz9.ab⟩⟩
   exact X_return (.tuple #[nt 0, nt 1]) rfl ⟨by rw [hE16]; rfl, ⟨H, F, G, (by rw [h316]; exact ho17), (by rw [h216]; exact hV), (by rw [h116]; exact hl), hHr, hFr, hGr, hHF, hHG, hFG⟩, hK0⟩
  refine OI_eq [(0, pt z), (1, pt x), (2, pt y), (3, nt who), (4, nt of), (6, nt after), (7, nt now), (13, pt b1), (41, .bool false)] (by first | simp [hg15] | rfl) ?_
  refine Ose [(0, pt z), (1, pt x), (2, pt y), (3, nt who), (4, nt of), (6, nt after), (7, nt now), (13, pt b1), (20, .bool (decide (after > 1000)))] ?_
  refine V_if (after > 1000) (by kernel_rfl) (fun hc18 => ?_) (fun hc18 => ?_)
  ·
   refine Vs [(16, nt 0), (17, nt 1)] ?_
   refine V_ret ?_
   refine X_ret_block ?_
   refine X_ret_then ?_
   have hE19 : subE xs cs s ts rs who of after = 1 := subE_bad (.inr (by omega))
   obtain ⟨h119, h219, h319⟩ := sub_no hE19 (by decide)
   have ho20 : DRf H w1 z ts rs := ⟨hrv9, hHz9, (fun q hq => Nat.lt_of_lt_of_le (hHlt9 q hq) (by omega)), _, _, _, _, ⟨by (try simp only [List.length_set]); exact hz9, hA9, hB9, hdz9.za, hdz9.zb, hdz9.ab⟩⟩
   exact X_return (.tuple #[nt 0, nt 1]) rfl ⟨by rw [hE19]; rfl, ⟨H, F, G, (by rw [h319]; exact ho20), (by rw [h219]; exact hV), (by rw [h119]; exact hl), hHr, hFr, hGr, hHF, hHG, hFG⟩, hK0⟩
  refine Vr ?_
  refine On 3 [0, 1, 2, 3, 4, 6, 7, 13, 48] ?_
  refine Oc 96 (.tmp 48) 1 (.slice B9 rs.length capb9) (some 49) hz9 rfl ?_
  refine Ose [(0, pt z), (1, pt x), (2, pt y), (3, nt who), (4, nt of), (6, nt after), (7, nt now), (13, pt b1), (45, .bool (decide ((rs.length : Int) ≥ 12)))] ?_
  refine V_if ((rs.length : Int) ≥ 12) (by kernel_rfl) (fun hc21 => ?_) (fun hc21 => ?_)
  ·
   refine Vs [(16, nt 0), (17, nt 3)] ?_
   refine V_ret ?_
   refine X_ret_block ?_
   refine X_ret_then ?_
   have hE22 : subE xs cs s ts rs who of after = 3 := by
     rw [subE_ok (by simpa using hg6) (by omega) (by omega)]
     rw [if_pos (by omega)]
   obtain ⟨h122, h222, h322⟩ := sub_no hE22 (by decide)
   have ho23 : DRf H w1 z ts rs := ⟨hrv9, hHz9, (fun q hq => Nat.lt_of_lt_of_le (hHlt9 q hq) (by omega)), _, _, _, _, ⟨by (try simp only [List.length_set]); exact hz9, hA9, hB9, hdz9.za, hdz9.zb, hdz9.ab⟩⟩
   exact X_return (.tuple #[nt 0, nt 3]) rfl ⟨by rw [hE22]; rfl, ⟨H, F, G, (by rw [h322]; exact ho23), (by rw [h222]; exact hV), (by rw [h122]; exact hl), hHr, hFr, hGr, hHF, hHG, hFG⟩, hK0⟩
  refine Vr ?_
  refine On 4 [0, 1, 2, 3, 4, 6, 7, 13, 53, 56] ?_
  refine Oc 96 (.tmp 56) 1 (.slice B9 rs.length capb9) (some 57) hz9 rfl ?_
  refine Os 6 [(0, pt z), (1, pt x), (2, pt y), (3, nt who), (4, nt of), (6, nt after), (7, nt now), (13, pt b1), (53, pt y), (58, nt (rs.length : Int))] ?_
  refine Ok (kL 56 #[(.tmp 53), (.tmp 58)] #[35, 3]) 56 #[pt y, nt (rs.length : Int)] (some 59) (dhas_spec F y s (rs.length : Int) _ hV) ?_
  rintro _ w24 ⟨rfl, hk25⟩
  refine ⟨_, rfl, ?_⟩
  have hsz26 := Keep.size hk25
  replace hb1 := hb1.k0 hk25
  replace hz9 := hz9.k0 hk25
  replace hA9 := hA9.keep0 hk25
  replace hB9 := hB9.keep0 hk25
  replace hV := DVt.keep hV hk25 nk
  replace hl := DLd.keep hl hk25 nk
  replace hK0 := hK0.tn hk25
  skip
  refine Ose [(0, pt z), (1, pt x), (2, pt y), (3, nt who), (4, nt of), (6, nt after), (7, nt now), (13, pt b1), (52, .bool ((pollAt s (rs.length : Int)).isSome))] ?_
  refine V_ifb ((pollAt s (rs.length : Int)).isSome) (by kernel_rfl) (fun hc27 => ?_) (fun hc27 => ?_)
  ·
   refine Vs [(16, nt 0), (17, nt 5)] ?_
   refine V_ret ?_
   refine X_ret_block ?_
   refine X_ret_then ?_
   have hE28 : subE xs cs s ts rs who of after = 5 := by
     rw [subE_ok (by simpa using hg6) (by omega) (by omega)]
     rw [if_neg (by omega)]
     exact if_pos (by simpa using hc27)
   obtain ⟨h128, h228, h328⟩ := sub_no hE28 (by decide)
   have ho29 : DRf H w24 z ts rs := ⟨hrv9, hHz9, (fun q hq => Nat.lt_of_lt_of_le (hHlt9 q hq) (by omega)), _, _, _, _, ⟨by (try simp only [List.length_set]); exact hz9, hA9, hB9, hdz9.za, hdz9.zb, hdz9.ab⟩⟩
   exact X_return (.tuple #[nt 0, nt 5]) rfl ⟨by rw [hE28]; rfl, ⟨H, F, G, (by rw [h328]; exact ho29), (by rw [h228]; exact hV), (by rw [h128]; exact hl), hHr, hFr, hGr, hHF, hHG, hFG⟩, hK0⟩
  refine V_skip ?_
  refine X_block ?_
  refine X_then ?_
  refine Vr ?_
  refine Os 2 [(0, pt z), (2, pt y), (3, nt who), (4, nt of), (6, nt after), (7, nt now), (13, pt b1), (60, pt x), (61, nt who)] ?_
  refine Ok (kL 57 #[(.tmp 60), (.tmp 61), (.const (nt 10))] #[34, 3, 3]) 57 #[pt x, nt who, nt 10] (some 62) (reserve6_spec G x xs cs who 10 _ hl) ?_
  rintro _ w34 ⟨rfl, ⟨F36, ho37, hfr38⟩, hk35⟩
  refine ⟨_, rfl, ?_⟩
  have hsz39 := Keep.size hk35
  replace hb1 := hb1.keep hk35 (fun hs => by have h1 := own11 _ hs; have h2 := hGlt _ hs; omega)
  replace hz9 := hz9.keep hk35 (fun hs => by have h1 := own11 _ hs; have h2 := hGlt _ hs; omega)
  replace hA9 := hA9.keep hk35 (fun q hq hs => (fun q h1 h2 => hHG q (hdz9.za q h2).1 h1) q hs hq)
  replace hB9 := hB9.keep hk35 (fun q hq hs => (fun q h1 h2 => hHG q (hdz9.zb q h2).1 h1) q hs hq)
  replace hV := DVt.keep hV hk35 (fun q hq hs => (fun q h1 h2 => hFG q h2 h1) q hs hq)
  replace hK0 := Keep.fresh hK0 hk35 (fun i hi hs => by rcases hGr i hs with h | h; exact .inr <| .inr <| h; (exfalso; omega))
  skip
  have own41 : ∀ q, F36 q → 0 ≤ q ∧ q ≠ b1 ∧ q ≠ z := fun q hq => by rcases hfr38 q hq with h | h; (have h1 := own11 q h; have h2 := hGlt q h; omega); omega
  have lt40 := DLd.lt ho37
  have rel42 : ∀ q, F36 q → G q ∨ w.heap.size ≤ q := fun q hq => by rcases hfr38 q hq with h | h; exact hGr q h; exact .inr (by omega)
  have dis43 : ∀ q, F36 q → ¬ inA A9 q := fun q h1 h2 => by rcases hfr38 q h1 with h | h; exact (fun q h1 h2 => hHG q (hdz9.za q h2).1 h1) q h h2; (have h4 := ltA9 q h2; omega)
  have dis44 : ∀ q, F36 q → ¬ inA B9 q := fun q h1 h2 => by rcases hfr38 q h1 with h | h; exact (fun q h1 h2 => hHG q (hdz9.zb q h2).1 h1) q h h2; (have h4 := ltB9 q h2; omega)
  have dis45 : ∀ q, F36 q → ¬ F q := fun q h1 h2 => by rcases hfr38 q h1 with h | h; exact (fun q h1 h2 => hFG q h2 h1) q h h2; (have h4 := hFlt q h2; omega)
  have dis46 : ∀ q, F36 q → ¬ H q := fun q h1 h2 => by rcases hfr38 q h1 with h | h; exact (fun q h1 h2 => hHG q h2 h1) q h h2; (have h4 := hHlt q h2; omega)
  refine On 4 [0, 2, 3, 4, 6, 7, 13, 18] ?_
  refine Oe ?_
  refine V_seq ?_
  refine Vs [(0, pt z), (2, pt y), (3, nt who), (4, nt of), (6, nt after), (7, nt now), (13, pt b1), (18, nt (spendsE xs cs who 10)), (64, .bool (!(decide (spendsE xs cs who 10 = 0))))] ?_
  refine V_not (spendsE xs cs who 10 = 0) (by kernel_rfl) (fun hc47 => ?_) (fun hc47 => ?_)
  ·
   refine Vs [(16, nt 0), (17, nt (spendsE xs cs who 10))] ?_
   refine V_ret ?_
   refine X_ret_then ?_
   have hE48 : subE xs cs s ts rs who of after = (spendsE xs cs who 10) := by
     rw [subE_ok (by simpa using hg6) (by omega) (by omega)]
     rw [if_neg (by omega)]
     rw [if_neg (by rw [hc27]; decide)]
   obtain ⟨h148, h248, h348⟩ := sub_no hE48 (hc47)
   have ho49 : DRf H w34 z ts rs := ⟨hrv9, hHz9, (fun q hq => Nat.lt_of_lt_of_le (hHlt9 q hq) (by omega)), _, _, _, _, ⟨by (try simp only [List.length_set]); exact hz9, hA9, hB9, hdz9.za, hdz9.zb, hdz9.ab⟩⟩
   exact X_return (.tuple #[nt 0, nt (spendsE xs cs who 10)]) rfl ⟨by rw [hE48]; rw [if_neg (hc47)], ⟨H, F, F36, (by rw [h348]; exact ho49), (by rw [h248]; exact hV), (by rw [show subX xs cs s ts rs who of after = resX xs cs who 10 from h148.trans (by unfold resX; rw [if_neg (hc47)])]; exact ho37), hHr, hFr, rel42, hHF, (fun q h1 h2 => dis46 q h2 h1), (fun q h1 h2 => dis45 q h2 h1)⟩, hK0⟩
  refine V_skip ?_
  refine X_then ?_
  refine Vr ?_
  refine On 3 [0, 2, 3, 4, 6, 7, 13, 68] ?_
  refine Oc 96 (.tmp 68) 1 (.slice B9 rs.length capb9) (some 69) hz9 rfl ?_
  refine On 6 [0, 2, 3, 4, 6, 7, 13, 19] ?_
  refine Oer ?_
  refine Os 3 [(0, pt z), (3, nt who), (4, nt of), (6, nt after), (7, nt now), (13, pt b1), (19, nt (rs.length : Int)), (71, pt y), (72, nt (rs.length : Int)), (73, nt of)] ?_
  refine Ok (kL 58 #[(.tmp 71), (.tmp 72), (.tmp 73)] #[35, 3, 3]) 58 #[pt y, nt (rs.length : Int), nt of] (some 74) (dopn_spec F y s (rs.length : Int) of _ hV) ?_
  rintro _ w52 ⟨rfl, ⟨F54, ho55, hfr56⟩, hk53⟩
  refine ⟨_, rfl, ?_⟩
  have hsz57 := Keep.size hk53
  replace hb1 := hb1.keep hk53 (fun hs => by have h1 := own10 _ hs; have h2 := hFlt _ hs; omega)
  replace hz9 := hz9.keep hk53 (fun hs => by have h1 := own10 _ hs; have h2 := hFlt _ hs; omega)
  replace hA9 := hA9.keep hk53 (fun q hq hs => (fun q h1 h2 => hHF q (hdz9.za q h2).1 h1) q hs hq)
  replace hB9 := hB9.keep hk53 (fun q hq hs => (fun q h1 h2 => hHF q (hdz9.zb q h2).1 h1) q hs hq)
  replace hK0 := Keep.fresh hK0 hk53 (fun i hi hs => by rcases hFr i hs with h | h; exact .inr <| .inl h; (exfalso; omega))
  skip
  replace ho37 := DLd.keep ho37 hk53 (fun q hq hs => (fun q h1 h2 => dis45 q h2 h1) q hs hq)
  have own59 : ∀ q, F54 q → 0 ≤ q ∧ q ≠ b1 ∧ q ≠ z := fun q hq => by rcases hfr56 q hq with h | h; (have h1 := own10 q h; have h2 := hFlt q h; omega); omega
  have lt58 := DVt.lt ho55
  have rel60 : ∀ q, F54 q → F q ∨ w.heap.size ≤ q := fun q hq => by rcases hfr56 q hq with h | h; exact hFr q h; exact .inr (by omega)
  have dis61 : ∀ q, F54 q → ¬ inA A9 q := fun q h1 h2 => by rcases hfr56 q h1 with h | h; exact (fun q h1 h2 => hHF q (hdz9.za q h2).1 h1) q h h2; (have h4 := ltA9 q h2; omega)
  have dis62 : ∀ q, F54 q → ¬ inA B9 q := fun q h1 h2 => by rcases hfr56 q h1 with h | h; exact (fun q h1 h2 => hHF q (hdz9.zb q h2).1 h1) q h h2; (have h4 := ltB9 q h2; omega)
  have dis63 : ∀ q, F54 q → ¬ H q := fun q h1 h2 => by rcases hfr56 q h1 with h | h; exact (fun q h1 h2 => hHF q h2 h1) q h h2; (have h4 := hHlt q h2; omega)
  have dis64 : ∀ q, F54 q → ¬ F36 q := fun q h1 h2 => by rcases hfr56 q h1 with h | h; exact (fun q h1 h2 => dis45 q h2 h1) q h h2; (have h4 := lt40 q h2; omega)
  refine Oe ?_
  refine V_seq ?_
  refine V_draws (acts [11, 12, 15]) (inA B9) [[5, 6, 7, 8, 9, 10, 11, 1, 2, 3, 4, 12, 0, 13, 14, 15]] (by kernel_rfl) (by repeat first | exact (by first | exact sure_body (by rintro _ _ ⟨_, _, h, _⟩; exact ⟨_, h⟩) | exact sure_body (by rintro _ _ ⟨_, _, h, _⟩; exact ⟨_, h⟩) | exact sure_body (by rintro _ _ ⟨h, _⟩; exact ⟨_, h⟩)) | refine sure_then ?_ | refine sure_block ?_ | refine sure_join ?_) (by kernel_rfl) ?_
  intro w66 hk65 he67 L hL68
  have hsz69 := Keep.size hk65
  replace hb1 := hb1.k0 hk65
  replace hz9 := hz9.k0 hk65
  replace hA9 := hA9.keep0 hk65
  replace hB9 := hB9.keep0 hk65
  replace hK0 := hK0.tn hk65
  skip
  replace ho37 := DLd.keep ho37 hk65 nk
  replace ho55 := DVt.keep ho55 hk65 nk
  have qhb1 := hb1
  have qhz9 := hz9
  have K70 : Keep (inA B9) w66 w66 := Keep.refl _ _
  obtain rfl := List.mem_singleton.1 hL68
  refine Gn [6, 7, 8, 9, 10, 11, 1, 2, 3, 4, 12, 0, 13, 14, 15] [0, 3, 6, 7, 13, 19, 80] ?_
  refine Ga 40 (.tmp 13) 0 (hshc sum) (some 81) 32 qhb1 (fun hs => by have h1 := owB9 _ hs; have h2 := ltB9 _ hs; omega) (take_all (hshc_len _)) (hshc_len _) ?_
  refine Gs [11, 1, 2, 3, 4, 12, 0, 13, 14, 15] [(0, pt z), (19, nt (rs.length : Int)), (85, .agg (Rfm.cells (newR of sum after now who)).toArray)] ?_
  refine GI_slit (E := 44) (zv := .agg #[nt 0, nt 0, .int .u8 0, .int .u8 0, .int .u8 0, .int .u8 0, .int .u8 0, .int .u8 0, .int .u8 0, .int .u8 0, .int .u8 0, .int .u8 0, .int .u8 0, .int .u8 0, .int .u8 0, .int .u8 0, .int .u8 0, .int .u8 0, .int .u8 0, .int .u8 0, .int .u8 0, .int .u8 0, .int .u8 0, .int .u8 0, .int .u8 0, .int .u8 0, .int .u8 0, .int .u8 0, .int .u8 0, .int .u8 0, .int .u8 0, .int .u8 0, .int .u8 0, .int .u8 0, nt 0, nt 0, nt 0, .bool false, nt 0, nt 0, nt 0, nt 0, nt 0, nt 0, nt 0]) (sz := 45) (by_ := 136) 96 1 #[(0, (Operand.tmp 85))] [.agg (Rfm.cells (newR of sum after now who)).toArray] (Rfm.cells (newR of sum after now who)) (some 86) (by kernel_rfl) (by kernel_rfl) K70 (by kernel_rfl) (by kernel_rfl) (by omega) rfl (by omega) (by intro v hv; obtain rfl := List.mem_singleton.1 hv; show (Rfm.cells (newR of sum after now who)).toArray.size = 45; simp [Rfm.len]) (by kernel_rfl) (by show (Rfm.cells (newR of sum after now who)).toArray.toList ++ [] = _; simp) ?_
  intro b71 w71 e71 hb71 k71 z71 K72
  have hsz73 := Keep.size k71
  replace hb1 := hb1.k0 k71
  replace hz9 := hz9.k0 k71
  replace hA9 := hA9.keep0 k71
  replace hB9 := hB9.keep0 k71
  replace hK0 := hK0.tn k71
  skip
  replace ho37 := DLd.keep ho37 k71 nk
  replace ho55 := DVt.keep ho55 k71 nk
  have hb71lt := hb71.lt
  refine Gs [4, 12, 0, 13, 14, 15] [(0, pt z), (19, nt (rs.length : Int)), (78, po_ z 1), (86, sl_ b71 0 1 1)] ?_
  refine Gc 96 (.tmp 78) 1 (.slice B9 rs.length capb9) (some 79) qhz9 (fun hs => by have h1 := owB9 _ hs; have h2 := ltB9 _ hs; omega) rfl ?_
  refine GI_append (t := 96) (at2 := 96) (E := 44) (E2 := 44) (sz := 45) (by_ := 136) (zv := .agg #[nt 0, nt 0, .int .u8 0, .int .u8 0, .int .u8 0, .int .u8 0, .int .u8 0, .int .u8 0, .int .u8 0, .int .u8 0, .int .u8 0, .int .u8 0, .int .u8 0, .int .u8 0, .int .u8 0, .int .u8 0, .int .u8 0, .int .u8 0, .int .u8 0, .int .u8 0, .int .u8 0, .int .u8 0, .int .u8 0, .int .u8 0, .int .u8 0, .int .u8 0, .int .u8 0, .int .u8 0, .int .u8 0, .int .u8 0, .int .u8 0, .int .u8 0, .int .u8 0, .int .u8 0, nt 0, nt 0, nt 0, .bool false, nt 0, nt 0, nt 0, nt 0, nt 0, nt 0, nt 0]) (m := rs.length) (k := 1) (.tmp 79) (.tmp 86) (.slice B9 rs.length capb9) (sl_ b71 0 1 1) (some 87) (by kernel_rfl) (by kernel_rfl) (by kernel_rfl) (by kernel_rfl) (by kernel_rfl) (by kernel_rfl) (by kernel_rfl) (by kernel_rfl) (SlT.slr hB9) (slr_one hb71 (Rfm.len ((newR of sum after now who)))) (Rfm.one ((newR of sum after now who))) (by first | omega | (simp only [List.length_nil]; omega)) (by omega) (by first | omega | (simp only [List.length_nil]; omega)) (by omega) ?_
  intro vv9 w74 hap
  obtain ⟨A74, cap74, rfl, hA74, hk74, own74x⟩ := app_one (f := Rfm.cells) (xs := rs) (x := ((newR of sum after now who))) (A := B9) (cap := capb9) hap (fun x _ => Rfm.len x) (Rfm.len _)
  have own74 : ∀ q, inA A74 q → q ≠ z ∧ q ≠ b1 := fun q hq => by rcases own74x q hq with h | h; exact owB9 q h; (show q ≠ z ∧ q ≠ b1; omega)
  refine ⟨Keep.fresh K72 hk74 (by intro i hi hs; first | exact hs | (exfalso; have h1 := owB9 i hs; have h2 := ltB9 i hs; omega) | (have h1 := owB9 i hs; have h2 := ltB9 i hs; show _ ∨ _; omega)), ?_⟩
  have K75 := Keep.fresh K72 hk74 (by intro i hi hs; first | exact hs | (exfalso; have h1 := owB9 i hs; have h2 := ltB9 i hs; omega) | (have h1 := owB9 i hs; have h2 := ltB9 i hs; show _ ∨ _; omega))
  have hsz76 := Keep.size hk74
  replace hb1 := hb1.keep hk74 (fun hs => by have h1 := owB9 _ hs; have h2 := ltB9 _ hs; omega)
  replace hz9 := hz9.keep hk74 (fun hs => by have h1 := owB9 _ hs; have h2 := ltB9 _ hs; omega)
  replace hA9 := hA9.keep hk74 (fun q hq hs => (fun q h1 h2 => hdz9.ab q h2 h1) q hs hq)
  replace hK0 := Keep.fresh hK0 hk74 (fun i hi hs => by rcases hHr i (hdz9.zb i hs).1 with h | h; exact .inl h; (exfalso; omega))
  skip
  replace ho37 := DLd.keep ho37 hk74 (fun q hq hs => (fun q h1 h2 => dis44 q h2 h1) q hs hq)
  replace ho55 := DVt.keep ho55 hk74 (fun q hq hs => (fun q h1 h2 => dis62 q h2 h1) q hs hq)
  have lt74 := SlT.lt hA74
  refine Gs [15] [(19, nt (rs.length : Int)), (87, .slice A74 ((rs ++ [((newR of sum after now who))]).length) cap74), (89, po_ z 1)] ?_
  refine GI_final 15 (by kernel_rfl) (by kernel_rfl) ?_
  refine Ot 96 (.tmp 89) (.tmp 87) 1 (.slice A74 ((rs ++ [((newR of sum after now who))]).length) cap74) hz9 ?_
  intro w77 hz_80 hk78 hz79
  replace hz_80 : Blk w77 z [.slice A9 ts.length cap9, .slice A74 ((rs ++ [((newR of sum after now who))]).length) cap74] 98 := hz_80
  have hsz81 := Keep.size hk78
  replace hb1 := hb1.k1 hk78
  replace hA9 := hA9.keep hk78 (fun q hq hs => by have hs : q = z := hs; have g0 := owA9 q hq; have g1 := ltA9 q hq; omega)
  replace hA74 := hA74.keep hk78 (fun q hq hs => by have hs : q = z := hs; have g0 := own74 q hq; have g1 := lt74 q hq; omega)
  replace hK0 := Keep.fresh hK0 hk78 (by intro i hi hs; have hs2 : i = z := hs; replace hs : H i := (hs2 ▸ hHz9); rcases hHr i hs with h | h; exact .inl h; (exfalso; omega))
  skip
  replace ho37 := DLd.keep ho37 hk78 (fun q hq hs => by have hs : q = z := hs; have g0 := own41 q hq; have g1 := lt40 q hq; omega)
  replace ho55 := DVt.keep ho55 hk78 (fun q hq hs => by have hs : q = z := hs; have g0 := own59 q hq; have g1 := lt58 q hq; omega)
  refine Oer ?_
  refine Ose [(16, nt (rs.length : Int)), (17, nt 0)] ?_
  refine V_ret ?_
  have hE82 : subE xs cs s ts rs who of after = 0 := by
    rw [subE_ok (by simpa using hg6) (by omega) (by omega)]
    rw [if_neg (by omega)]
    rw [if_neg (by rw [hc27]; decide)]
    exact hc47
  obtain ⟨h182, h282, h382⟩ := sub_go hE82
  obtain ⟨H83, ho84, hfr85⟩ := DRf.snoc (N := w71.heap.size) hdz9 (RInv.snoc (x := newR of sum after now who) hrv9 (by show 0 ≤ of ∧ of < _; omega) ⟨Int.le_refl _, Int.le_refl _, Int.le_refl _⟩ (by omega)) hHz9 (fun q hq => Nat.lt_of_lt_of_le (hHlt9 q hq) (by omega)) (by omega) (by first | exact hz_80 | (simp only [List.length_append, List.length_singleton]; exact hz_80)) hA9 hA74 own74x
  have lt86 := DRf.lt ho84
  have rel87 : ∀ q, H83 q → H q ∨ w.heap.size ≤ q := fun q hq => by rcases hfr85 q hq with h | h; exact hHr q h; exact .inr (by omega)
  have dis88 : ∀ q, H83 q → ¬ F36 q := fun q h1 h2 => by rcases hfr85 q h1 with h | h; exact (fun q h1 h2 => dis46 q h2 h1) q h h2; (have h4 := lt40 q h2; omega)
  have dis89 : ∀ q, H83 q → ¬ F54 q := fun q h1 h2 => by rcases hfr85 q h1 with h | h; exact (fun q h1 h2 => dis63 q h2 h1) q h h2; (have h4 := lt58 q h2; omega)
  exact X_return (.tuple #[nt (rs.length : Int), nt 0]) rfl ⟨by rw [hE82]; rfl, ⟨H83, F54, F36, (by rw [h382]; exact ho84), (by rw [h282]; exact ho55), (by rw [h182]; exact ho37), rel87, rel60, rel42, dis89, dis88, dis64⟩, hK0⟩
 refine OI_eq [(0, pt z), (1, pt x), (2, pt y), (3, nt who), (4, nt of), (6, nt after), (7, nt now), (13, pt b1), (24, .bool true)] (by first | rfl | rw [hg6]) ?_
 refine Ose [(0, pt z), (1, pt x), (2, pt y), (3, nt who), (4, nt of), (6, nt after), (7, nt now), (13, pt b1), (20, .bool true)] ?_
 refine V_true rfl ?_
 refine Vs [(16, nt 0), (17, nt 1)] ?_
 refine V_ret ?_
 refine X_ret_block ?_
 refine X_ret_then ?_
 have hE90 : subE xs cs s ts rs who of after = 1 := subE_bad (.inl (by simpa using hg6))
 obtain ⟨h190, h290, h390⟩ := sub_no hE90 (by decide)
 exact X_return (.tuple #[nt 0, nt 1]) rfl ⟨by rw [hE90]; rfl, ⟨H, F, G, (by rw [h390]; exact h), (by rw [h290]; exact hV), (by rw [h190]; exact hl), hHr, hFr, hGr, hHF, hHG, hFG⟩, hK0⟩
end Go.Al
