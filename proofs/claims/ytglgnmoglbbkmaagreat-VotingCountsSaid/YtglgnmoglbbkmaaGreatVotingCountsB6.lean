/-
  Put together out of 7 texts: The document's voting: Open, Close. The document's voting: what a vote changes. The document's voting: join, won, Tally. The document's voting: Unvote. The document's voting: got. The document's voting: Vote. The document's voting: Delegate.
-/
import Derived.Test.YtglgnmoglbbkmaaGreatVotingCountsB5
open Go.IntKind (i64)
set_option maxRecDepth 10000
namespace Go.Al
open Go Go.RowKit Go.Proofs
variable {i : Nat} {s : VS}
theorem DInv.setP (h : DInv s) {q : PollS} (hq : 0 ≤ q.track ∧ q.track < 4) (hs : q.state ≠ 1) : DInv (s.setP i q) := by
  have hg : ∀ (k : Nat) (r : PollS), s.ps[k]? = some (some r) → ∃ r', (s.ps.set i (some q))[k]? = some (some r') := fun k r hk => by
    by_cases e : i = k
    · subst e; exact ⟨q, List.getElem?_set_self (List.getElem?_eq_some_iff.1 hk).1⟩
    · exact ⟨r, by rw [List.getElem?_set_ne e]; exact hk⟩
  refine ⟨⟨by show (s.ps.set i (some q)).length = 12; rw [List.length_set]; exact h.inv.len, fun c hc => ?_, h.inv.dels⟩, h.trk.setP hq, fun k r hk => ?_, h.srt⟩
  · obtain ⟨h1, h2, h3, r, h4⟩ := h.inv.votes c hc
    exact ⟨h1, h2, h3, hg _ _ h4⟩
  · have hk : (s.ps.set i (some q))[k]? = some (some r) := hk
    by_cases e : i = k
    · subst e
      have hl : i < (s.ps.set i (some q)).length := (List.getElem?_eq_some_iff.1 hk).1
      rw [List.getElem?_set_self (by rw [List.length_set] at hl; exact hl)] at hk
      simp only [Option.some.injEq] at hk
      subst hk; exact hs
    · rw [List.getElem?_set_ne e] at hk; exact h.st _ _ hk
theorem vrow_new (hi : s.Inv) (h : s.ps[i]? = some none) (q : PollS) (a t : Int) : vrow (s.setP i q) a t = vrow s a t := by
  unfold vrow
  refine List.filter_congr fun c hc => ?_
  obtain ⟨k, hk⟩ := List.getElem?_of_mem hc
  obtain ⟨x, hx, _, hb, _⟩ := rowL_mem hk
  obtain ⟨_, _, _, r, hr⟩ := hi.votes x hx
  have hne : i ≠ c.1.toNat := fun e => by rw [hb, ← e, h] at hr; cases hr
  have : trk (s.setP i q) c.1 = trk s c.1 := by unfold trk VS.setP; simp only []; rw [List.getElem?_set_ne hne]
  rw [this]
theorem vrow_setP {q q' : PollS} (h : s.ps[i]? = some (some q)) (ht : q'.track = q.track) (a t : Int) : vrow (s.setP i q') a t = vrow s a t := vrow_congr (s := s) (s' := s.setP i q') rfl (trk_setP h ht) a t
theorem dopn_spec (F : Nat → Prop) (y : Nat) (s : VS) (ref t : Int) (w : World) (h : DVt F w y s) : Calls Tryz.prog 72 #[pt y, nt ref, nt t] w fun e w' => e = .returned (nt (openE s ref t)) ∧ (∃ F', DVt F' w' y (openS s ref t) ∧ (∀ q, F' q → F q ∨ w.heap.size ≤ q)) ∧ Keep F w w' := by
 obtain ⟨hdi, hFlt, bP, oP, cP, bR, oR, cR, rs, hdv⟩ := h
 obtain ⟨LP, TP, hP⟩ := hdv.pl
 obtain ⟨LR, TR, hR⟩ := hdv.rl
 have hy := hdv.blk
 obtain ⟨hyP, hyR, hPR⟩ := hdv.ne
 have hylt := hy.lt
 have hbPlt := hP.blk.lt
 have hbRlt := hR.blk.lt
 have hpl : s.ps.length = 12 := hdi.inv.len
 have hrl := hdv.rlen
 have hra := hdv.all
 have hF0 : ∀ q, F q → F q ∨ w.heap.size ≤ q := fun _ h => .inl h
 have hK0 := Keep.refl F w
 refine eV ?_
 refine Vr <| On 1 [0, 1, 2] <| Oe <| V_seq <| Vr <| On 3 [0, 1, 2, 9] ?_
 by_cases hg1 : ref < 0
 ·
  refine Dt 9 hg1 <| Oen [0, 1, 2, 17] <| Vo <| Vs [(6, nt 1)] <| Rt ?_
  have hE : openE s ref t = 1 := by unfold openE; rw [if_pos (by omega)]
  exact X_return _ rfl ⟨by rw [hE], ⟨F, by rw [show openS s ref t = s from by unfold openS; rw [hE]; rfl]; exact ⟨hdi, (ltm hFlt), _, _, _, _, _, _, _, ⟨hy, ⟨_, _, hP⟩, ⟨_, _, hR⟩, hdv.ne, hdv.own, hdv.rlen, hra⟩⟩, hF0⟩, hK0⟩
 refine Df 9 hg1 <| Os 7 [(0, pt y),(1, nt ref),(2, nt t),(13, .bool (decide (ref ≥ 12)))] ?_
 by_cases hg2 : ref ≥ 12
 ·
  refine Dt 13 hg2 <| Oen [0, 1, 2, 17] <| Vo <| Vs [(6, nt 1)] <| Rt ?_
  have hE : openE s ref t = 1 := by unfold openE; rw [if_pos (by omega)]
  exact X_return _ rfl ⟨by rw [hE], ⟨F, by rw [show openS s ref t = s from by unfold openS; rw [hE]; rfl]; exact ⟨hdi, (ltm hFlt), _, _, _, _, _, _, _, ⟨hy, ⟨_, _, hP⟩, ⟨_, _, hR⟩, hdv.ne, hdv.own, hdv.rlen, hra⟩⟩, hF0⟩, hK0⟩
 obtain ⟨j3, hj3, hjl3⟩ : ∃ j : Nat, ref = j ∧ j < 12 := ⟨(ref).toNat, by omega, by omega⟩
 refine OI_eq [(0, pt y),(1, nt ref),(2, nt t),(13, .bool false)] (by first | simp [hg2] | rfl) <| On 8 [0, 1, 2, 13, 14] <| Kq (dtrack_spec t _) <| Oen [0, 1, 2, 17] <| Vb (!(decide (0 ≤ t ∧ t < 4))) (fun hc7 => ?_) (fun hc7 => ?_)
 ·
  have htkt : ¬ (0 ≤ t ∧ t < 4) := by have h9 := hc7; simp at h9; omega
  refine Vs [(6, nt 1)] <| Rt ?_
  have hE : openE s ref t = 1 := by unfold openE; rw [if_pos (by omega)]
  exact X_return _ rfl ⟨by rw [hE], ⟨F, by rw [show openS s ref t = s from by unfold openS; rw [hE]; rfl]; exact ⟨hdi, (ltm hFlt), _, _, _, _, _, _, _, ⟨hy, ⟨_, _, hP⟩, ⟨_, _, hR⟩, hdv.ne, hdv.own, hdv.rlen, hra⟩⟩, hF0⟩, hK0⟩
 have htkt : (0 ≤ t ∧ t < 4) := by have h9 := hc7; simp at h9; omega
 refine Vsk <| V_seq <| Vr <| On 3 [0, 1, 2, 20] <| Lr 0 (sl_ bP oP 12 cP) hy <| On 5 [0, 1, 2, 21, 22] <| Op_ [(0, pt y),(1, nt ref),(2, nt t),(21, sl_ bP oP 12 cP),(22, nt ref)] <| Oq (u := nt ref) (v := nt (j3 : Int)) 22 (by rw [hj3]) <| Oi (b := bP) (o := oP) (len := 12) (cap := cP) (j := j3) (some 23) 74 (.tmp 21) (.tmp 22) 73 7 56 .i64 <| On 7 [0, 1, 2, 24] ?_
 obtain ⟨x8, hx9⟩ := exAt (xs := s.ps) (i := j3)
 refine Lc (oP + j3 * 7) (.bool x8.isSome) hP.blk (At.cell0 hP (es_at hx9) rfl) <| Oe <| Vb (x8.isSome) (fun hc10 => ?_) (fun hc10 => ?_)
 ·
  obtain ⟨q9, rfl⟩ := Option.isSome_iff_exists.1 hc10
  refine Vs [(6, nt 5)] <| Rt ?_
  have hE : openE s ref t = 5 := by unfold openE; rw [if_neg (by omega), hj3, pollAt_in hx9 (by omega)]; rfl
  exact X_return _ rfl ⟨by rw [hE], ⟨F, by rw [show openS s ref t = s from by unfold openS; rw [hE]; rfl]; exact ⟨hdi, (ltm hFlt), _, _, _, _, _, _, _, ⟨hy, ⟨_, _, hP⟩, ⟨_, _, hR⟩, hdv.ne, hdv.own, hdv.rlen, hra⟩⟩, hF0⟩, hK0⟩
 obtain rfl : x8 = none := by simpa using hc10
 refine Vsk <| Vr <| On 3 [1, 2, 28] <| Lr 0 (sl_ bP oP 12 cP) hy <| On 7 [29, 30, 32] <| Op_ [(29, sl_ bP oP 12 cP),(30, nt ref),(32, .agg #[.bool true, nt t, nt 1, nt 0, nt 0, nt 0, nt 0])] <| Oq (u := nt ref) (v := nt (j3 : Int)) 30 (by rw [hj3]) <| Oi (b := bP) (o := oP) (len := 12) (cap := cP) (j := j3) (some 33) 74 (.tmp 29) (.tmp 30) 73 7 56 .i64 <| TsN (m := 7) (some (PollS.mk t Tly.zero 0 0) : (Option PollS)) 0 [.bool true, nt t, nt 1, nt 0, nt 0, nt 0, nt 0] hP hx9 rfl (by kernel_rfl) (by simp [Value.oneCell']) ?_
 intro w11 hat15 hk13 hz14 hlhx16 hx16
 have hsz17 := Keep.size hk13
 replace hy := hy.k1 hk13
 replace hR := hR.k1 hk13
 replace hra := RAll.keep hra hk13 (fun _ _ _ h _ hs => h hs)
 replace hK0 := fro hK0 hk13 hdv.own.2.1
 refine Oer <| Ose [(6, nt 0)] <| V_ret ?_
 have hE : openE s ref t = 0 := by unfold openE; rw [if_neg (by omega), hj3, pollAt_in hx9 (by omega)]; rfl
 exact X_return _ rfl ⟨by rw [hE], ⟨F, by rw [show openS s ref t = s.setP j3 (PollS.mk t Tly.zero 0 0) from by unfold openS; rw [if_pos hE, hj3]; rfl]; exact ⟨hdi.setP (by show 0 ≤ t ∧ t < 4; omega) (by show (0 : Int) ≠ 1; decide),(ltm hFlt), _, _, _, _, _, _, _, hy, ⟨_, _, hat15⟩, ⟨_, _, hR⟩, hdv.ne, hdv.own, hdv.rlen, RAll.same hra (fun _ _ => rfl) (vrow_new hdi.inv hx9 (PollS.mk t Tly.zero 0 0))⟩, hF0⟩, hK0⟩
theorem dcls_spec (F : Nat → Prop) (y : Nat) (s : VS) (ref st en : Int) (w : World) (h : DVt F w y s) : Calls Tryz.prog 73 #[pt y, nt ref, nt st, nt en] w fun e w' => e = .returned (nt (closeE s ref st)) ∧ (∃ F', DVt F' w' y (closeS s ref st en) ∧ (∀ q, F' q → F q ∨ w.heap.size ≤ q)) ∧ Keep F w w' := by
 obtain ⟨hdi, hFlt, bP, oP, cP, bR, oR, cR, rs, hdv⟩ := h
 obtain ⟨LP, TP, hP⟩ := hdv.pl
 obtain ⟨LR, TR, hR⟩ := hdv.rl
 have hy := hdv.blk
 obtain ⟨hyP, hyR, hPR⟩ := hdv.ne
 have hylt := hy.lt
 have hbPlt := hP.blk.lt
 have hbRlt := hR.blk.lt
 have hpl : s.ps.length = 12 := hdi.inv.len
 have hrl := hdv.rlen
 have hra := hdv.all
 have hF0 : ∀ q, F q → F q ∨ w.heap.size ≤ q := fun _ h => .inl h
 have hK0 := Keep.refl F w
 refine eV ?_
 refine Vr <| On 1 [0, 1, 2, 3] <| Oe <| V_seq <| V_block <| Vr <| On 2 [0, 1, 2, 3, 10, 11] <| Kk (dhas_spec F y s ref _ ⟨hdi, (ltm hFlt), _, _, _, _, _, _, _, ⟨hy, ⟨_, _, hP⟩, ⟨_, _, hR⟩, hdv.ne, hdv.own, hdv.rlen, hra⟩⟩) fun w1 hk2 _ => ?_
 replace hy := hy.k0 hk2
 replace hP := hP.k0 hk2
 replace hR := hR.k0 hk2
 replace hra := RAll.keep hra hk2 (fun _ _ _ _ _ f => f)
 replace hK0 := hK0.tn hk2
 refine Oen [0, 1, 2, 3, 9] <| Vb (!((pollAt s ref).isSome)) (fun hc4 => ?_) (fun hc4 => ?_)
 ·
  have hno : pollAt s ref = none := by simpa using hc4
  refine Vs [(8, nt 4)] <| V_ret <| X_ret_block <| X_ret_then ?_
  have hE : closeE s ref st = 4 ∧ closeS s ref st en = s := by unfold closeS closeE; rw [hno]; exact ⟨rfl, rfl⟩
  exact X_return _ rfl ⟨by rw [hE.1], ⟨F, by rw [show closeS s ref st en = s from hE.2]; exact ⟨hdi, (ltm hFlt), _, _, _, _, _, _, _, ⟨hy, ⟨_, _, hP⟩, ⟨_, _, hR⟩, hdv.ne, hdv.own, hdv.rlen, hra⟩⟩, hF0⟩, hK0⟩
 obtain ⟨⟨tk5, tl5, sta5, stp5⟩, hq5⟩ := Option.isSome_iff_exists.1 (show (pollAt s ref).isSome = true by simpa using hc4)
 obtain ⟨i5, rfl, hil5, hqi5⟩ := pollAt_some hq5
 obtain ⟨t5, rfl, htl5⟩ : ∃ t : Nat, tk5 = t ∧ t < 4 := by have h9 := hdi.trk _ _ hqi5; exact ⟨tk5.toNat, by simp only at h9; omega, by simp only at h9; omega⟩
 have hst5 : sta5 ≠ 1 := hdi.st _ _ hqi5
 refine Vr <| On 2 [0, 1, 2, 3, 15, 16] <| Ok (kl 101 #[(.tmp 15),(.tmp 16)] #[33, 3]) 101 #[pt y, nt (i5 : Int)] (some 17) (dopen_spec y bP oP cP LP TP s i5 _ _ _ hy hP hqi5 hst5 hpl) ?_
 rintro _ w6 ⟨rfl, hk7⟩
 refine ⟨_, rfl, ?_⟩
 have hsz8 := Keep.size hk7
 replace hy := hy.k0 hk7
 replace hP := hP.k0 hk7
 replace hR := hR.k0 hk7
 replace hra := RAll.keep hra hk7 (fun _ _ _ _ _ f => f)
 replace hK0 := hK0.tn hk7
 refine Oen [0, 1, 2, 3, 14] <| Vb (!(decide (sta5 = 0))) (fun hc9 => ?_) (fun hc9 => ?_)
 ·
  refine Vs [(8, nt 9)] <| V_ret <| X_ret_block <| X_ret_then ?_
  have hE : closeE s (i5 : Int) st = 9 := by unfold closeE; rw [hq5]; show (if sta5 ≠ 0 then (9 : Int) else if ¬ (2 ≤ st ∧ st ≤ 6) then 1 else 0) = 9; rw [if_pos (by simpa using hc9)]
  exact X_return _ rfl ⟨by rw [hE], ⟨F, by rw [show closeS s (i5 : Int) st en = s from by unfold closeS; rw [hq5]; show (if closeE s (i5 : Int) st = 0 then _ else s) = s; rw [hE]; rfl]; exact ⟨hdi, (ltm hFlt), _, _, _, _, _, _, _, ⟨hy, ⟨_, _, hP⟩, ⟨_, _, hR⟩, hdv.ne, hdv.own, hdv.rlen, hra⟩⟩, hF0⟩, hK0⟩
 refine Vr <| On 3 [0, 1, 2, 3, 22] ?_
 by_cases hg10 : st < 2
 ·
  refine Dt 22 hg10 <| Oen [0, 1, 2, 3, 19] <| Vo <| Vs [(8, nt 1)] <| V_ret <| X_ret_block <| X_ret_then ?_
  have hE : closeE s (i5 : Int) st = 1 := by unfold closeE; rw [hq5]; show (if sta5 ≠ 0 then (9 : Int) else if ¬ (2 ≤ st ∧ st ≤ 6) then 1 else 0) = 1; rw [if_neg (by simpa using hc9), if_pos (by omega)]
  exact X_return _ rfl ⟨by rw [hE], ⟨F, by rw [show closeS s (i5 : Int) st en = s from by unfold closeS; rw [hq5]; show (if closeE s (i5 : Int) st = 0 then _ else s) = s; rw [hE]; rfl]; exact ⟨hdi, (ltm hFlt), _, _, _, _, _, _, _, ⟨hy, ⟨_, _, hP⟩, ⟨_, _, hR⟩, hdv.ne, hdv.own, hdv.rlen, hra⟩⟩, hF0⟩, hK0⟩
 refine Df 22 hg10 <| Oen [0, 1, 2, 3, 19] <| Vi (st > 6) (fun hc11 => ?_) (fun hc11 => ?_)
 ·
  refine Vs [(8, nt 1)] <| V_ret <| X_ret_block <| X_ret_then ?_
  have hE : closeE s (i5 : Int) st = 1 := by unfold closeE; rw [hq5]; show (if sta5 ≠ 0 then (9 : Int) else if ¬ (2 ≤ st ∧ st ≤ 6) then 1 else 0) = 1; rw [if_neg (by simpa using hc9), if_pos (by omega)]
  exact X_return _ rfl ⟨by rw [hE], ⟨F, by rw [show closeS s (i5 : Int) st en = s from by unfold closeS; rw [hq5]; show (if closeE s (i5 : Int) st = 0 then _ else s) = s; rw [hE]; rfl]; exact ⟨hdi, (ltm hFlt), _, _, _, _, _, _, _, ⟨hy, ⟨_, _, hP⟩, ⟨_, _, hR⟩, hdv.ne, hdv.own, hdv.rlen, hra⟩⟩, hF0⟩, hK0⟩
 refine V_skip <| X_block <| X_then <| V_seq ?_
 have hdst : dst st = st := by unfold dst; rw [if_neg (by omega)]
 refine Vd1 (acts [14, 17]) (only bP) [0, 1, 2, 3, 4, 5, 6, 7, 8, 10, 12, 13, 14, 9, 11, 15, 16, 17] fun w13 hk12 he14 K17 _ => ?_
 replace hy := hy.k0 hk12
 replace hP := hP.k0 hk12
 replace hR := hR.k0 hk12
 replace hra := RAll.keep hra hk12 (fun _ _ _ _ _ f => f)
 replace hK0 := hK0.tn hk12
 have qhy := hy
 refine Gn [3, 4, 5, 6, 7, 8, 10, 12, 13, 14, 9, 11, 15, 16, 17] [0, 1, 2, 3, 28] <| Mc 0 (sl_ bP oP 12 cP) qhy (by show ¬ (_ = _); omega) rfl <| Gn [8, 10, 12, 13, 14, 9, 11, 15, 16, 17] [1, 2, 3, 29, 30, 33] <| Mc 0 (sl_ bP oP 12 cP) qhy (by show ¬ (_ = _); omega) rfl <| Gn [12, 13, 14, 9, 11, 15, 16, 17] [1, 3, 29, 30, 34, 36] <| Gi (b := bP) (o := oP) (len := 12) (cap := cP) (j := i5) 73 7 56 .i64 <| Gn [14, 9, 11, 15, 16, 17] [1, 3, 34, 36, 39] <| GI_set (m := 1) (kd := false) 3 (.tmp 39) (.tmp 36) (oP + i5 * 7 + 2) (nt st) [nt st] none (by kernel_rfl) (by kernel_rfl) (by kernel_rfl) (by kernel_rfl) (At.blk hP) (by kernel_rfl) (by kernel_rfl) rfl (by have h1 := At.room hP; have h2 := At.le hP; rw [List.length_map] at h2; omega) (by simp [Value.oneCell']) K17 (fun hh => rfl) ?_
 intro w18 hn19 hk20 hz21 K23
 obtain ⟨hat22, hlhx24, hx24⟩ := At.st1 (y := (some (PollS.mk (t5 : Int) tl5 st stp5) : (Option PollS))) (k := 2) hP hqi5 (by omega) (by rw [show dpc _ = _ from rfl]; simp only [dpc, pT, pSt, hdst]; rfl) hn19
 have hsz25 := Keep.size hk20
 replace hy := hy.k1 hk20
 replace hR := hR.k1 hk20
 replace hra := RAll.keep hra hk20 (fun _ _ _ h _ hs => h hs)
 replace hK0 := fro hK0 hk20 hdv.own.2.1
 refine Gn [15, 16, 17] [34, 35, 37] <| Gi (b := bP) (o := oP) (len := 12) (cap := cP) (j := i5) 73 7 56 .i64 <| Gn [17] [37, 41] <| GI_final 17 (by kernel_rfl) (by kernel_rfl) <| Tss1 (some (PollS.mk (t5 : Int) tl5 st en) : (Option PollS)) 3 (nt en) hat22 hx24 rfl ?_
 intro w26 hat30 hk28 hz29 hlhx31 hx31
 have hsz32 := Keep.size hk28
 replace hy := hy.k1 hk28
 replace hR := hR.k1 hk28
 replace hra := RAll.keep hra hk28 (fun _ _ _ h _ hs => h hs)
 replace hK0 := fro hK0 hk28 hdv.own.2.1
 refine Oer <| Ose [(8, nt 0)] <| V_ret ?_
 have hE : closeE s (i5 : Int) st = 0 := by unfold closeE; rw [hq5]; show (if sta5 ≠ 0 then (9 : Int) else if ¬ (2 ≤ st ∧ st ≤ 6) then 1 else 0) = 0; rw [if_neg (by simpa using hc9), if_neg (by omega)]
 exact X_return _ rfl ⟨by rw [hE], ⟨F, by rw [show closeS s (i5 : Int) st en = s.setP i5 (PollS.mk (t5 : Int) tl5 st en) from by unfold closeS; rw [hq5]; show (if closeE s (i5 : Int) st = 0 then _ else s) = _; rw [if_pos hE, Int.toNat_natCast]]; exact ⟨hdi.setP (have h9 := hdi.trk _ _ hqi5; h9) (by show st ≠ 1; omega),(ltm hFlt), _, _, _, _, _, _, _, hy, ⟨_, _, (by have h9 := hat30; (try rw [List.set_set] at h9); exact h9)⟩, ⟨_, _, hR⟩, hdv.ne, hdv.own, hdv.rlen, RAll.same hra (fun _ _ => rfl) (vrow_setP hqi5 rfl)⟩, hF0⟩, hK0⟩
end Go.Al
namespace Go.Al
open Go Go.RowKit Go.Proofs
theorem DInv.vote_ {s : VS} (h : DInv s) (xs : List Acc) (who ref : Int) (x : Vt) : DInv (voteS xs s who ref x) := by
  have ht := h.trk.voteS xs who ref x
  unfold voteS at ht ⊢
  by_cases he : voteE xs s who ref x = 0
  · rw [if_pos he] at ht ⊢
    cases hq : pollAt s ref with
    | none => exact h
    | some q =>
      obtain ⟨i, rfl, hi, hiq⟩ := pollAt_some hq
      rw [hq] at ht
      simp only [Int.toNat_natCast] at ht ⊢
      have hq0 : q.state = 0 := by
        have he := he
        unfold voteE at he
        split at he
        · cases he
        · rw [hq] at he
          simp only at he
          split at he
          · cases he
          · rename_i h9; exact Classical.not_not.1 h9
      have hok : (0 ≤ who ∧ who ≤ 9) ∧ okV x := by
        have he := he
        unfold voteE at he
        split at he
        · cases he
        · rename_i h9
          simp only [not_or, Classical.not_not] at h9; exact h9
      have hp := h.setP (i := i) (q := { q with t := voteT s who (i : Int) x q }) (have h9 := h.trk _ _ hiq; h9) (by show q.state ≠ 1; omega)
      refine ⟨⟨hp.inv.len, fun c hc => ?_, h.inv.dels⟩, ht, hp.st, (GV.Srt.set h.srt).1⟩
      rcases GV.setC_mem2 hc with rfl | hc
      · refine ⟨by show 0 ≤ who ∧ who < 10; omega, by show 0 ≤ (i : Int) ∧ (i : Int) < 12; omega, hok.2, ?_⟩
        show ∃ p, (s.ps.set i _)[(i : Int).toNat]? = some (some p)
        rw [Int.toNat_natCast]
        exact ⟨_, List.getElem?_set_self (by rw [h.inv.len]; omega)⟩
      · exact hp.inv.votes c hc
  · rw [if_neg he]; exact h
theorem vrow_vote {s : VS} (hs : GV.Srt s.cs) {i : Nat} {q q' : PollS} (hq : s.ps[i]? = some (some q)) (ht : q'.track = q.track) (who : Int) (x : Vt) (a t : Int) : vrow (VS.mk (s.setP i q').ps (GV.setC who (i : Int) x s.cs) s.rc) a t = if a = who ∧ q.track = t then GV.insR (i : Int) x (vrow s a t) else vrow s a t := by
  have h := vrow_set (s := s.setP i q') hs who (i : Int) x a t
  have hk : trk s (i : Int) = q.track := by unfold trk; rw [Int.toNat_natCast, hq]
  rw [trk_setP hq ht, vrow_setP hq ht, hk] at h
  exact h
theorem rc_other {a t i : Nat} (hi : i ≠ a * 4 + t) : ¬ (((i / 4 : Nat) : Int) = (a : Int) ∧ (t : Int) = ((i % 4 : Nat) : Int)) := by omega
end Go.Al
namespace Go.Al
open Go Go.RowKit Go.Proofs
theorem djoin_spec (bR oR cR j : Nat) (LR : List Value) (TR : TypeId) (rs : List DR) (d : DR) (u n : Int) (w : World) (hR : At w bR oR LR TR 9 cR (rs.map DR.cells)) (hd : rs[j]? = some d) : Calls Tryz.prog 108 #[.pointer (some ⟨bR, oR + j * 9, none⟩), nt u, nt n] w fun e w' => e = .returned (.tuple #[]) ∧ (∃ L', At w' bR oR L' TR 9 cR ((rs.set j (DR.mk d.A d.cap d.ls d.on d.to d.level d.n d.gv d.gc (imax d.till u) (imax d.pr n))).map DR.cells)) ∧ Keep (only bR) w w' := by
 have hbRlt := hR.blk.lt
 have hjl := (List.getElem?_eq_some_iff.1 hd).1
 have hK0 : Keep (only bR) w w := Keep.refl _ _
 refine eV ?_
 refine Vp [(0, .pointer (some ⟨bR, oR + j * 9, none⟩)),(1, nt u),(2, nt n)] <| Vd (acts [5, 11, 16, 19]) (only bR) [[2, 3, 4, 5, 8, 9, 10, 11, 0, 6, 7, 14, 15, 16, 1, 12, 13, 17, 18, 19], [8, 9, 10, 11, 2, 3, 4, 5, 0, 6, 7, 14, 15, 16, 1, 12, 13, 17, 18, 19]] ?_
 intro w2 hk1 he3 L hL4
 have hsz5 := Keep.size hk1
 replace hR := hR.k0 hk1
 replace hK0 := hK0.tn hk1
 have K6 : Keep (only bR) w2 w2 := Keep.refl _ _
 simp only [List.mem_cons, List.not_mem_nil, or_false] at hL4
 rcases hL4 with rfl | rfl
 ·
  refine Gn [5, 8, 9, 10, 11, 0, 6, 7, 14, 15, 16, 1, 12, 13, 17, 18, 19] [0, 1, 2, 10] <| GI_cellA 3 (.tmp 10) (oR + j * 9 + 7) (nt d.till) (some 11) (by kernel_rfl) (by kernel_rfl) K6 (by kernel_rfl) hR.blk (m := 1) (by kernel_rfl) (At.cell hR (es_at hd) rfl) <| Gn [11, 0, 6, 7, 14, 15, 16, 1, 12, 13, 17, 18, 19] [0, 1, 2, 11, 16] <| GI_cellA 3 (.tmp 16) (oR + j * 9 + 8) (nt d.pr) (some 17) (by kernel_rfl) (by kernel_rfl) K6 (by kernel_rfl) hR.blk (m := 1) (by kernel_rfl) (At.cell hR (es_at hd) rfl) <| Gn [16, 1, 12, 13, 17, 18, 19] [0, 2, 13, 17, 21] <| GI_set (m := 1) (kd := false) 3 (.tmp 21) (.tmp 13) (oR + j * 9 + 7) (nt (imax d.till u)) [nt (imax d.till u)] none (by kernel_rfl) (by kernel_rfl) (by kernel_rfl) (by kernel_rfl) (At.blk hR) (by kernel_rfl) (by kernel_rfl) rfl (by have h1 := At.room hR; have h2 := At.le hR; rw [List.length_map] at h2; omega) (by simp [Value.oneCell']) K6 (fun hh => rfl) ?_
  intro w7 hn8 hk9 hz10 K12
  obtain ⟨hat11, hlhx13, hx13⟩ := At.st1 (y := (DR.mk d.A d.cap d.ls d.on d.to d.level d.n d.gv d.gc (imax d.till u) d.pr : DR)) (k := 7) hR hd (by omega) rfl hn8
  have hsz14 := Keep.size hk9
  replace hK0 := Keep.fr hK0 hk9
  refine Gs [19] [(19, nt (imax d.pr n)),(23, .pointer (some ⟨bR, oR + j * 9 + 8, none⟩))] <| GI_final 19 (by kernel_rfl) (by kernel_rfl) <| Tss1 (DR.mk d.A d.cap d.ls d.on d.to d.level d.n d.gv d.gc (imax d.till u) (imax d.pr n) : DR) 8 (nt (imax d.pr n)) hat11 hx13 rfl ?_
  intro w15 hat19 hk17 hz18 hlhx20 hx20
  have hsz21 := Keep.size hk17
  replace hK0 := Keep.fr hK0 hk17
  refine OI_end rfl ?_
  exact X_end _ rfl ⟨rfl, ⟨_, by have h9 := hat19; (try rw [List.set_set] at h9); exact h9⟩, hK0⟩
 ·
  refine Gn [11, 2, 3, 4, 5, 0, 6, 7, 14, 15, 16, 1, 12, 13, 17, 18, 19] [0, 1, 2, 16] <| GI_cellA 3 (.tmp 16) (oR + j * 9 + 8) (nt d.pr) (some 17) (by kernel_rfl) (by kernel_rfl) K6 (by kernel_rfl) hR.blk (m := 1) (by kernel_rfl) (At.cell hR (es_at hd) rfl) <| Gn [5, 0, 6, 7, 14, 15, 16, 1, 12, 13, 17, 18, 19] [0, 1, 2, 10, 17] <| GI_cellA 3 (.tmp 10) (oR + j * 9 + 7) (nt d.till) (some 11) (by kernel_rfl) (by kernel_rfl) K6 (by kernel_rfl) hR.blk (m := 1) (by kernel_rfl) (At.cell hR (es_at hd) rfl) <| Gn [16, 1, 12, 13, 17, 18, 19] [0, 2, 13, 17, 21] <| GI_set (m := 1) (kd := false) 3 (.tmp 21) (.tmp 13) (oR + j * 9 + 7) (nt (imax d.till u)) [nt (imax d.till u)] none (by kernel_rfl) (by kernel_rfl) (by kernel_rfl) (by kernel_rfl) (At.blk hR) (by kernel_rfl) (by kernel_rfl) rfl (by have h1 := At.room hR; have h2 := At.le hR; rw [List.length_map] at h2; omega) (by simp [Value.oneCell']) K6 (fun hh => rfl) ?_
  intro w22 hn23 hk24 hz25 K27
  obtain ⟨hat26, hlhx28, hx28⟩ := At.st1 (y := (DR.mk d.A d.cap d.ls d.on d.to d.level d.n d.gv d.gc (imax d.till u) d.pr : DR)) (k := 7) hR hd (by omega) rfl hn23
  have hsz29 := Keep.size hk24
  replace hK0 := Keep.fr hK0 hk24
  refine Gs [19] [(19, nt (imax d.pr n)),(23, .pointer (some ⟨bR, oR + j * 9 + 8, none⟩))] <| GI_final 19 (by kernel_rfl) (by kernel_rfl) <| Tss1 (DR.mk d.A d.cap d.ls d.on d.to d.level d.n d.gv d.gc (imax d.till u) (imax d.pr n) : DR) 8 (nt (imax d.pr n)) hat26 hx28 rfl ?_
  intro w30 hat34 hk32 hz33 hlhx35 hx35
  have hsz36 := Keep.size hk32
  replace hK0 := Keep.fr hK0 hk32
  refine OI_end rfl ?_
  exact X_end _ rfl ⟨rfl, ⟨_, by have h9 := hat34; (try rw [List.set_set] at h9); exact h9⟩, hK0⟩
theorem dwon_spec (q : PollS) (x : Vt) (w : World) : Calls Tryz.prog 107 #[.agg (dpc (some q)).toArray, .agg x.cells.toArray] w fun e w' => e = .returned (.bool (wonV x (dst q.state))) ∧ Keep none_ w w' := by
 have hK0 := Keep.refl none_ w
 refine eV ?_
 refine Vr <| OI_box 73 (.tmp 0) (.agg (dpc (some q)).toArray) (dpc (some q)) (some 2) (by kernel_rfl) (by kernel_rfl) rfl ?_
 intro b1 w1 e1 hb1 k1 z1
 have hsz2 := Keep.size k1
 replace hK0 := hK0.tn k1
 have hb1lt := hb1.lt
 refine OI_box 23 (.tmp 1) (.agg (Vt.cells x).toArray) (Vt.cells x) (some 3) (by kernel_rfl) (by kernel_rfl) rfl ?_
 intro b3 w3 e3 hb3 k3 z3
 have hsz4 := Keep.size k3
 replace hb1 := hb1.k0 k3
 replace hK0 := hK0.tn k3
 have hb3lt := hb3.lt
 refine On 3 [2, 3] <| Oer <| On 1 [2, 3, 5] <| Lr 0 (nt x.kind) hb3 <| On 4 [2, 3, 8] ?_
 by_cases hg5 : x.kind = 1
 ·
  refine Dt 8 hg5 <| On 5 [2, 3, 8, 9] <| Lr 2 (nt (dst q.state)) hb1 <| On 8 [2, 3, 8, 12] ?_
  by_cases hg6 : dst q.state = 2
  ·
   refine Dt 12 hg6 <| On 9 [2, 3, 8, 12, 13] <| Lr 1 (.bool x.aye) hb3 <| Os 12 [(2, pt b1),(3, pt b3),(8, .bool true),(16, .bool x.aye)] ?_
   cases hg7 : x.aye
   ·
    refine OI_eq [(2, pt b1),(3, pt b3),(8, .bool true),(16, .bool false)] (by first | rfl | rw [hg7]) <| On 13 [3, 8, 16, 17] <| Lr 2 (nt (dst q.state)) hb1 <| On 16 [3, 8, 16, 20] ?_
    by_cases hg8 : dst q.state = 3
    ·
     exact Dt 20 hg8 <| On 17 [8, 16, 20, 21] <| Lr 1 (.bool x.aye) hb3 <| Oen [4] <| Rr (.bool (!x.aye)) ⟨by congr 2; unfold wonV; cases h9 : x.aye <;> simp_all, hK0⟩
    exact Df 20 hg8 <| Oen [4] <| Rr (.bool false) ⟨by congr 2; unfold wonV; cases h9 : x.aye <;> simp_all, hK0⟩
   exact OI_eq [(2, pt b1),(3, pt b3),(8, .bool true),(16, .bool true)] (by first | rfl | rw [hg7]) <| Oen [4] <| Rr (.bool true) ⟨by congr 2; unfold wonV; cases h9 : x.aye <;> simp_all, hK0⟩
  refine Df 12 hg6 <| On 13 [3, 8, 16, 17] <| Lr 2 (nt (dst q.state)) hb1 <| On 16 [3, 8, 16, 20] ?_
  by_cases hg9 : dst q.state = 3
  ·
   exact Dt 20 hg9 <| On 17 [8, 16, 20, 21] <| Lr 1 (.bool x.aye) hb3 <| Oen [4] <| Rr (.bool (!x.aye)) ⟨by congr 2; unfold wonV; cases h9 : x.aye <;> simp_all, hK0⟩
  exact Df 20 hg9 <| Oen [4] <| Rr (.bool false) ⟨by congr 2; unfold wonV; cases h9 : x.aye <;> simp_all, hK0⟩
 exact Df 8 hg5 <| Oen [4] <| Rr (.bool false) ⟨by congr 2; unfold wonV; cases h9 : x.aye <;> simp_all, hK0⟩
end Go.Al
namespace Go.Al
open Go Go.RowKit Go.Proofs
section
variable {s : VS}
theorem DInv.cs_ (h : DInv s) {c : List GV.Ci} (hs : GV.Srt c) (hm : ∀ x ∈ c, x ∈ s.cs) : DInv (VS.mk s.ps c s.rc) := ⟨⟨h.inv.len, fun x hx => h.inv.votes x (hm x hx), h.inv.dels⟩, h.trk, h.st, hs⟩
theorem DInv.setR_ (h : DInv s) (a t : Int) {r : RecS} (hd : okD r) : DInv (s.setR a t r) := ⟨⟨h.inv.len, h.inv.votes, fun x y => by
  show okD (updR s.rc a t r x y)
  unfold updR
  split
  · exact hd
  · exact h.inv.dels x y⟩, h.trk, h.st, h.srt⟩
theorem vrow_unv (hs : GV.Srt s.cs) (who ref : Int) {s' : VS} (hc : s'.cs = GV.delC who ref s.cs) (ht : ∀ r, trk s' r = trk s r) (a t : Int) : vrow s' a t = if a = who ∧ trk s ref = t then (vrow s a t).filter (fun q => decide (q.1 ≠ ref)) else vrow s a t := by
  rw [← vrow_del hs]
  exact vrow_congr (s := VS.mk s.ps (GV.delC who ref s.cs) s.rc) (s' := s') hc ht a t
theorem updR_same (rc : Int → Int → RecS) (a t : Int) : updR rc a t (rc a t) = rc := by
  funext x y
  unfold updR
  split
  · rename_i h; rw [h.1, h.2]
  · rfl
theorem vote_ok (h : s.Inv) {who ref : Int} {v : Vt} (hg : GV.getC who ref s.cs = some v) : okV v ∧ 0 ≤ v.level ∧ v.level ≤ 6 := by
  obtain ⟨c, hc, _, _, hv⟩ := GV.getC_mem hg
  obtain ⟨_, _, hok, _⟩ := h.votes c hc
  rw [hv] at hok
  refine ⟨hok, ?_⟩
  unfold okV at hok
  omega
theorem dst_won {x : Vt} {n : Int} (h : ¬ n = 0) : wonV x (dst n) = wonV x n := by
  unfold dst; rw [if_neg h]
end
set_option maxHeartbeats 1000000 in
theorem dunvote_spec (F : Nat → Prop) (y : Nat) (s : VS) (who ref now : Int) (w : World) (h : DVt F w y s) : Calls Tryz.prog 75 #[pt y, nt who, nt ref, nt now] w fun e w' => e = .returned (nt (unvE s who ref)) ∧ (∃ F', DVt F' w' y (unvS s who ref now) ∧ (∀ q, F' q → F q ∨ w.heap.size ≤ q)) ∧ Keep F w w' := by
 obtain ⟨hdi, hFlt, bP, oP, cP, bR, oR, cR, rs, hdv⟩ := h
 obtain ⟨LP, TP, hP⟩ := hdv.pl
 obtain ⟨LR, TR, hR⟩ := hdv.rl
 have hy := hdv.blk
 obtain ⟨hyP, hyR, hPR⟩ := hdv.ne
 have hylt := hy.lt
 have hbPlt := hP.blk.lt
 have hbRlt := hR.blk.lt
 have hpl : s.ps.length = 12 := hdi.inv.len
 have hrl := hdv.rlen
 have hra := hdv.all
 have hF0 : ∀ q, F q → F q ∨ w.heap.size ≤ q := fun _ h => .inl h
 have hK0 := Keep.refl F w
 refine eV ?_
 refine Vr <| On 1 [0, 1, 2, 3] <| Oe <| V_seq <| Vr <| On 1 [0, 1, 2, 3, 15] <| Kq (is6_spec who _) <| Oen [0, 1, 2, 3, 17] <| Vb (!(isA who)) (fun hc4 => ?_) (fun hc4 => ?_)
 ·
  have hiawho : ¬ (0 ≤ who ∧ who ≤ 9) := by have h9 : isA who = false := (by simpa using hc4); simp [isA] at h9; omega
  refine Vs [(8, nt 1)] <| Rt ?_
  have hE : unvE s who ref = 1 := by unfold unvE; rw [if_pos hiawho]
  exact X_return _ rfl ⟨by rw [hE], ⟨F, by rw [show unvS s who ref now = s from by unfold unvS; rw [hE]; rfl]; exact ⟨hdi, (ltm hFlt), _, _, _, _, _, _, _, ⟨hy, ⟨_, _, hP⟩, ⟨_, _, hR⟩, hdv.ne, hdv.own, hdv.rlen, hra⟩⟩, hF0⟩, hK0⟩
 obtain ⟨a5, rfl, hal5⟩ : ∃ j : Nat, who = j ∧ j < 10 := by have h9 : isA who = true := (by simpa using hc4); simp only [isA, decide_eq_true_eq] at h9; exact ⟨who.toNat, by omega, by omega⟩
 refine Vsk <| V_seq <| Vr <| On 2 [0, 1, 2, 3, 18, 19] <| Kk (dhas_spec F y s ref _ ⟨hdi, (ltm hFlt), _, _, _, _, _, _, _, ⟨hy, ⟨_, _, hP⟩, ⟨_, _, hR⟩, hdv.ne, hdv.own, hdv.rlen, hra⟩⟩) fun w6 hk7 _ => ?_
 replace hy := hy.k0 hk7
 replace hP := hP.k0 hk7
 replace hR := hR.k0 hk7
 replace hra := RAll.keep hra hk7 (fun _ _ _ _ _ f => f)
 replace hK0 := hK0.tn hk7
 refine Oen [0, 1, 2, 3, 21] <| Vb (!((pollAt s ref).isSome)) (fun hc9 => ?_) (fun hc9 => ?_)
 ·
  have hno : pollAt s ref = none := by simpa using hc9
  refine Vs [(8, nt 4)] <| Rt ?_
  have hE : unvE s (a5 : Int) ref = 4 := by unfold unvE; rw [if_neg (fun h => h ⟨by omega, by omega⟩)]; rw [hno]
  exact X_return _ rfl ⟨by rw [hE], ⟨F, by rw [show unvS s (a5 : Int) ref now = s from by unfold unvS; rw [hE]; rfl]; exact ⟨hdi, (ltm hFlt), _, _, _, _, _, _, _, ⟨hy, ⟨_, _, hP⟩, ⟨_, _, hR⟩, hdv.ne, hdv.own, hdv.rlen, hra⟩⟩, hF0⟩, hK0⟩
 obtain ⟨⟨tk10, tl10, sta10, stp10⟩, hq10⟩ := Option.isSome_iff_exists.1 (show (pollAt s ref).isSome = true by simpa using hc9)
 obtain ⟨i10, rfl, hil10, hqi10⟩ := pollAt_some hq10
 obtain ⟨t10, rfl, htl10⟩ : ∃ t : Nat, tk10 = t ∧ t < 4 := by have h9 := hdi.trk _ _ hqi10; exact ⟨tk10.toNat, by simp only at h9; omega, by simp only at h9; omega⟩
 have hst10 : sta10 ≠ 1 := hdi.st _ _ hqi10
 refine Vsk <| Vr <| On 3 [0, 1, 2, 3, 24] <| Lr 0 (sl_ bP oP 12 cP) hy <| On 5 [0, 1, 2, 3, 25, 26] <| Oi (b := bP) (o := oP) (len := 12) (cap := cP) (j := i10) (some 27) 74 (.tmp 25) (.tmp 26) 73 7 56 .i64 <| On 7 [0, 1, 2, 3, 9] <| Oer <| On 5 [0, 2, 3, 9, 28, 29, 32] <| Lc (oP + i10 * 7 + 1) (nt (t10 : Int)) hP.blk (At.cell hP (es_at hqi10) rfl) <| Ok (kl 103 #[(.tmp 28),(.tmp 29),(.tmp 33)] #[33, 3, 3]) 103 #[pt y, nt (a5 : Int), nt (t10 : Int)] (some 34) (dat_spec y bR oR cR a5 t10 _ _ hy (by omega) (by omega)) ?_
 rintro _ w6 ⟨rfl, rfl⟩
 refine ⟨_, rfl, ?_⟩
 refine On 8 [0, 2, 3, 9, 10] <| Oer <| On 2 [0, 2, 3, 9, 10, 36, 37] ?_
 obtain ⟨x16, hx17⟩ := exAt (xs := rs) (i := a5 * 4 + t10)
 obtain ⟨A18, c18, rfl, hsk18, hok18⟩ := RAll.get hra hx17
 rw [vrJ_at s a5 t10 (by omega)] at hsk18
 rw [vrJ_at s a5 t10 (by omega), rcJ_at s a5 t10 (by omega)] at hx17
 have hsw18 : ∀ q, inA A18 q → q ≠ y ∧ q ≠ bP ∧ q ≠ bR ∧ q < w.heap.size := fun q hq => ⟨(hok18 q hq).2.1, (hok18 q hq).2.2.1, (hok18 q hq).2.2.2, hFlt q (hok18 q hq).1⟩
 have hsx18 := SlT.lt hsk18
 have hcp18 := SlT.cap_le hsk18
 refine Kk (dplace_spec bR oR cR (a5 * 4 + t10) LR TR rs A18 c18 (vrow s (a5 : Int) (t10 : Int)) (s.rc (a5 : Int) (t10 : Int)) (i10 : Int) _ hR hx17 hsk18 (Nat.le_trans (vrow_len _ _ _) (Nat.le_trans hdi.len (by decide)))) fun w14 hk15 _ => ?_
 replace hy := hy.k0 hk15
 replace hP := hP.k0 hk15
 replace hR := hR.k0 hk15
 replace hsk18 := hsk18.keep0 hk15
 replace hra := RAll.keep hra hk15 (fun _ _ _ _ _ f => f)
 replace hK0 := hK0.tn hk15
 have hplc := GV.plc_le (i10 : Int) (vrow s (a5 : Int) (t10 : Int))
 have hvl : (vrow s (a5 : Int) (t10 : Int)).length ≤ 120 := Nat.le_trans (vrow_len _ _ _) hdi.len
 refine On 8 [0, 2, 3, 9, 10, 11, 12] <| Oe <| V_seq <| Vn [0, 2, 3, 9, 10, 11, 42] <| Vb (!(GV.isP (i10 : Int) (vrow s (a5 : Int) (t10 : Int)))) (fun hc20 => ?_) (fun hc20 => ?_)
 ·
  have hp : GV.isP (i10 : Int) (vrow s (a5 : Int) (t10 : Int)) = false := by simpa using hc20
  obtain ⟨hv1, hv2⟩ : GV.isP (i10 : Int) (vrow s (a5 : Int) (t10 : Int)) = (GV.getC (a5 : Int) (i10 : Int) s.cs).isSome ∧ (∀ v, GV.getC (a5 : Int) (i10 : Int) s.cs = some v → (vrow s (a5 : Int) (t10 : Int))[GV.plc (i10 : Int) (vrow s (a5 : Int) (t10 : Int))]? = some ((i10 : Int), v)) := vrow_get hdi.srt hq10 (a5 : Int)
  refine Vs [(8, nt 4)] <| Rt ?_
  have hE : unvE s (a5 : Int) (i10 : Int) = 4 := by unfold unvE; rw [if_neg (fun h => h ⟨by omega, by omega⟩)]; rw [hq10]; dsimp only; rw [if_neg (by rw [← hv1, hp]; decide)]
  exact X_return _ rfl ⟨by rw [hE], ⟨F, by rw [show unvS s (a5 : Int) (i10 : Int) now = s from by unfold unvS; rw [hE]; rfl]; exact ⟨hdi, (ltm hFlt), _, _, _, _, _, _, _, ⟨hy, ⟨_, _, hP⟩, ⟨_, _, hR⟩, hdv.ne, hdv.own, hdv.rlen, hra⟩⟩, hF0⟩, hK0⟩
 have hp : GV.isP (i10 : Int) (vrow s (a5 : Int) (t10 : Int)) = true := by simpa using hc20
 obtain ⟨hv1, hv2⟩ : GV.isP (i10 : Int) (vrow s (a5 : Int) (t10 : Int)) = (GV.getC (a5 : Int) (i10 : Int) s.cs).isSome ∧ (∀ v, GV.getC (a5 : Int) (i10 : Int) s.cs = some v → (vrow s (a5 : Int) (t10 : Int))[GV.plc (i10 : Int) (vrow s (a5 : Int) (t10 : Int))]? = some ((i10 : Int), v)) := vrow_get hdi.srt hq10 (a5 : Int)
 have hpl9 := GV.isP_lt hp
 obtain ⟨v9, hv9⟩ := Option.isSome_iff_exists.1 (hv1.symm.trans hp)
 obtain ⟨hvk, hlv0, hlv6⟩ := vote_ok hdi.inv hv9
 refine Vsk <| Vr <| On 3 [0, 2, 3, 9, 10, 11, 45] <| Lc (oR + (a5 * 4 + t10) * 9) (.slice A18 ((vrow s (a5 : Int) (t10 : Int)).length) c18) hR.blk (At.cell0 hR (es_at hx17) rfl) <| On 5 [0, 2, 3, 9, 10, 11, 46, 47] ?_
 obtain ⟨b21, o21, L21, T21, rfl, hat21⟩ := SlT.opn hsk18
 have hb21lt := hat21.blk.lt
 have hob22 := hsw18 b21 ⟨_, rfl, rfl⟩
 have hob23 := hsx18 b21 ⟨_, rfl, rfl⟩
 refine Oi (b := b21) (o := o21) (len := (vrow s (a5 : Int) (t10 : Int)).length) (cap := c18) (j := GV.plc (i10 : Int) (vrow s (a5 : Int) (t10 : Int))) (some 48) 39 (.tmp 46) (.tmp 47) 46 7 56 .i64 <| On 7 [0, 2, 3, 9, 10, 11, 49] <| La (o21 + (GV.plc (i10 : Int) (vrow s (a5 : Int) (t10 : Int))) * 7 + 1) (Vt.cells v9) 6 hat21.blk (At.sub hat21 (es_at (hv2 v9 hv9)) (by decide) rfl) (Vt.len _) <| Alc_ 23 (.agg #[nt 0, .bool false, nt 0, nt 0, nt 0, nt 0]) [nt 0, .bool false, nt 0, nt 0, nt 0, nt 0] ?_
 intro b24 w24 e24 hb24 k24 z24
 have hsz25 := Keep.size k24
 replace hy := hy.k0 k24
 replace hP := hP.k0 k24
 replace hR := hR.k0 k24
 replace hat21 := hat21.keep k24 id
 replace hra := RAll.keep hra k24 (fun _ _ _ _ _ f => f)
 replace hK0 := hK0.tn k24
 have hb24lt := hb24.lt
 refine Sg 0 (Vt.cells v9) hb24 (Vt.len _) (Vt.one _) ?_
 intro w26 hb24_29 hk27 hz28
 replace hb24_29 : Blk w26 b24 (Vt.cells v9) 23 := (by rwa [over_whole (by rw [Vt.len]; rfl)] at hb24_29)
 have hsz30 := Keep.size hk27
 replace hy := hy.k1 hk27
 replace hP := hP.k1 hk27
 replace hR := hR.k1 hk27
 replace hat21 := hat21.keep hk27 (by show ¬ (_ = _); omega)
 replace hra := RAll.keep hra hk27 (fun q h1 h2 h3 h4 hs => by have hs : q = b24 := hs; first | exact h2 hs | exact h3 hs | exact h4 hs | (have h5 := hFlt q h1; omega))
 replace hK0 := frn hK0 hk27
 refine Oe <| V_seq <| Vd1 (acts [1, 8, 16, 19]) none_ [1, 2, 3, 4, 5, 6, 7, 8, 9, 10, 11, 12, 13, 14, 15, 16, 0, 17, 18, 19] fun w32 hk31 he33 K36 _ => ?_
 replace hb24_29 := hb24_29.k0 hk31
 replace hP := hP.k0 hk31
 replace hR := hR.k0 hk31
 replace hat21 := hat21.keep hk31 id
 replace hra := RAll.keep hra hk31 (fun _ _ _ _ _ f => f)
 replace hK0 := hK0.tn hk31
 have qhb24_29 := hb24_29
 have qhP := hP
 have qhR := hR
 refine GI_slit (E := 46) (zv := .agg #[nt 0, nt 0, .bool false, nt 0, nt 0, nt 0, nt 0]) (sz := 7) (by_ := 56) 39 0 #[] [] [] (some 52) (by kernel_rfl) (by kernel_rfl) K36 (by kernel_rfl) (by kernel_rfl) (by omega) rfl (by omega) (by intro v hv; cases hv) (by kernel_rfl) rfl ?_
 intro b37 w37 e37 hb37 k37 z37 K38
 have hsz39 := Keep.size k37
 replace hy := hy.k0 (hk31.tr k37)
 replace hb24_29 := hb24_29.k0 k37
 replace hP := hP.k0 k37
 replace hR := hR.k0 k37
 replace hat21 := hat21.keep k37 id
 replace hra := RAll.keep hra k37 (fun _ _ _ _ _ f => f)
 replace hK0 := hK0.tn k37
 have hb37lt := hb37.lt
 refine Gn [5, 6, 7, 8, 9, 10, 11, 12, 13, 14, 15, 16, 0, 17, 18, 19] [0, 2, 3, 9, 10, 11, 13, 52, 55] <| Mc0 (oR + (a5 * 4 + t10) * 9) (sl_ b21 o21 ((vrow s (a5 : Int) (t10 : Int)).length) c18) qhR.blk (At.cell0 qhR (es_at hx17) rfl) <| Gn [7, 8, 9, 10, 11, 12, 13, 14, 15, 16, 0, 17, 18, 19] [0, 2, 3, 9, 10, 11, 13, 52, 56, 57] ?_
 have hcl40 := At.slt hat21
 refine GI_pure (some 58) ((Op.slice 39 (Operand.tmp 56) none (some (Operand.tmp 57)) none)) (by kernel_rfl) (by kernel_rfl) (pure_sliceTo (E := 46) (sz := 7) (by_ := 56) (base := (some ⟨b21, o21, none⟩)) (len := (vrow s (a5 : Int) (t10 : Int)).length) (cap := c18) (h := GV.plc (i10 : Int) (vrow s (a5 : Int) (t10 : Int))) (kd := .i64) (by kernel_rfl) (by kernel_rfl) (by kernel_rfl) (by omega)) ?_
 have hl41 : ((vrow s (a5 : Int) (t10 : Int)).take (GV.plc (i10 : Int) (vrow s (a5 : Int) (t10 : Int)))).length = GV.plc (i10 : Int) (vrow s (a5 : Int) (t10 : Int)) := by rw [List.length_take]; omega
 have hy41 := (SlT.to hcl40 (i := GV.plc (i10 : Int) (vrow s (a5 : Int) (t10 : Int))) (by omega)).slr
 rw [hl41] at hy41
 refine GI_append (t := 39) (at2 := 39) (E := 46) (E2 := 46) (sz := 7) (by_ := 56) (zv := .agg #[nt 0, nt 0, .bool false, nt 0, nt 0, nt 0, nt 0]) (m := ([] : List (Int × Vt)).length) (k := GV.plc (i10 : Int) (vrow s (a5 : Int) (t10 : Int))) (.tmp 52) (.tmp 58) (sl_ b37 0 0 0) (sl_ b21 o21 (GV.plc (i10 : Int) (vrow s (a5 : Int) (t10 : Int))) c18) (some 59) (by kernel_rfl) (by kernel_rfl) (by kernel_rfl) (by kernel_rfl) (by kernel_rfl) (by kernel_rfl) (by kernel_rfl) (by kernel_rfl) (SlT.slr (slt_blk (xs := ([] : List (Int × Vt))) (f := castc) (sz := 7) hb37 castc_len rfl)) hy41 (fun u hu => by obtain ⟨z, _, hz⟩ := List.mem_flatMap.1 hu; exact castc_one z u hz) (by first | omega | ((repeat first | rw [List.length_append] | rw [List.length_cons] | rw [List.length_nil] | rw [List.length_take] | rw [List.length_drop]) <;> omega)) (by omega) (by first | omega | ((repeat first | rw [List.length_append] | rw [List.length_cons] | rw [List.length_nil] | rw [List.length_take] | rw [List.length_drop]) <;> omega)) (by omega) ?_
 intro vv9 w41 hap
 obtain ⟨A41, cap41, rfl, hA41, hk41, own41x⟩ := app_many (f := castc) (xs := ([] : List (Int × Vt))) (ys := ((vrow s (a5 : Int) (t10 : Int)).take (GV.plc (i10 : Int) (vrow s (a5 : Int) (t10 : Int))))) (A := (some ⟨b37, 0, none⟩)) (cap := 0) hap hl41 castc_len
 replace hk41 : Keep (only b37) w37 w41 := hk41.mono (fun i _ h => inA_some h)
 have own41 : ∀ q, inA A41 q → w32.heap.size ≤ q ∧ q ≠ b24 := fun q hq => by rcases own41x q hq with h | h; (have h9 := inA_some h; show w32.heap.size ≤ q ∧ q ≠ b24; omega); (show w32.heap.size ≤ q ∧ q ≠ b24; omega)
 refine ⟨Keep.fresh K38 hk41 (by intro i hi hs; have hs2 : i = b37 := hs; exfalso; omega), ?_⟩
 have K42 := Keep.fresh K38 hk41 (by intro i hi hs; have hs2 : i = b37 := hs; exfalso; omega)
 rw [List.nil_append] at hA41
 have hsz43 := Keep.size hk41
 replace hy := hy.k1 hk41
 replace hb24_29 := hb24_29.k1 hk41
 replace hP := hP.k1 hk41
 replace hR := hR.k1 hk41
 replace hcl40 := hcl40.keep hk41 (fun q hq hs => by have hs : q = b37 := hs; have g0 := hsw18 q hq; have g1 := hsx18 q hq; omega)
 replace hra := RAll.keep hra hk41 (fun q h1 h2 h3 h4 hs => by have hs : q = b37 := hs; first | exact h2 hs | exact h3 hs | exact h4 hs | (have h5 := hFlt q h1; omega))
 replace hK0 := frn hK0 hk41
 have lt41 := SlT.lt hA41
 have hcap41 := SlT.cap_le hA41
 refine Gn [12, 13, 14, 15, 16, 0, 17, 18, 19] [0, 2, 3, 9, 10, 11, 13, 59, 62] <| Mc0 (oR + (a5 * 4 + t10) * 9) (sl_ b21 o21 ((vrow s (a5 : Int) (t10 : Int)).length) c18) qhR.blk (At.cell0 qhR (es_at hx17) rfl) ?_
 have hw44 : i64.wrap (((GV.plc (i10 : Int) (vrow s (a5 : Int) (t10 : Int)) : Nat) : Int) + 1) = ((GV.plc (i10 : Int) (vrow s (a5 : Int) (t10 : Int)) + 1 : Nat) : Int) := wrp
 refine Gn [15, 16, 0, 17, 18, 19] [0, 2, 3, 9, 10, 13, 59, 63, 65] <| Gq_ (u := nt (i64.wrap (((GV.plc (i10 : Int) (vrow s (a5 : Int) (t10 : Int)) : Nat) : Int) + 1))) (v := nt ((GV.plc (i10 : Int) (vrow s (a5 : Int) (t10 : Int)) + 1 : Nat) : Int)) 65 (by rw [hw44]) <| GI_pure (some 66) ((Op.slice 39 (Operand.tmp 63) (some (Operand.tmp 65)) none none)) (by kernel_rfl) (by kernel_rfl) (pure_sliceSuf (E := 46) (sz := 7) (by_ := 56) (A := (some ⟨b21, o21, none⟩)) (len := (vrow s (a5 : Int) (t10 : Int)).length) (cap := c18) (l := GV.plc (i10 : Int) (vrow s (a5 : Int) (t10 : Int)) + 1) (kd := .i64) (by kernel_rfl) (by kernel_rfl) (by kernel_rfl) (by omega) (by omega)) ?_
 have hl45 : ((vrow s (a5 : Int) (t10 : Int)).drop (GV.plc (i10 : Int) (vrow s (a5 : Int) (t10 : Int)) + 1)).length = (vrow s (a5 : Int) (t10 : Int)).length - (GV.plc (i10 : Int) (vrow s (a5 : Int) (t10 : Int)) + 1) := List.length_drop
 have hy45 := (SlT.from_ hcl40 (i := GV.plc (i10 : Int) (vrow s (a5 : Int) (t10 : Int)) + 1) (by omega)).slr
 rw [hl45] at hy45
 refine GI_append (t := 39) (at2 := 39) (E := 46) (E2 := 46) (sz := 7) (by_ := 56) (zv := .agg #[nt 0, nt 0, .bool false, nt 0, nt 0, nt 0, nt 0]) (m := ((vrow s (a5 : Int) (t10 : Int)).take (GV.plc (i10 : Int) (vrow s (a5 : Int) (t10 : Int)))).length) (k := (vrow s (a5 : Int) (t10 : Int)).length - (GV.plc (i10 : Int) (vrow s (a5 : Int) (t10 : Int)) + 1)) (.tmp 59) (.tmp 66) (.slice A41 (((vrow s (a5 : Int) (t10 : Int)).take (GV.plc (i10 : Int) (vrow s (a5 : Int) (t10 : Int)))).length) cap41) (.slice (sufA (some ⟨b21, o21, none⟩) c18 (GV.plc (i10 : Int) (vrow s (a5 : Int) (t10 : Int)) + 1) 7) ((vrow s (a5 : Int) (t10 : Int)).length - (GV.plc (i10 : Int) (vrow s (a5 : Int) (t10 : Int)) + 1)) (c18 - (GV.plc (i10 : Int) (vrow s (a5 : Int) (t10 : Int)) + 1))) (some 67) (by kernel_rfl) (by kernel_rfl) (by kernel_rfl) (by kernel_rfl) (by kernel_rfl) (by kernel_rfl) (by kernel_rfl) (by kernel_rfl) (SlT.slr hA41) hy45 (fun u hu => by obtain ⟨z, _, hz⟩ := List.mem_flatMap.1 hu; exact castc_one z u hz) (by first | omega | ((repeat first | rw [List.length_append] | rw [List.length_cons] | rw [List.length_nil] | rw [List.length_take] | rw [List.length_drop]) <;> omega)) (by omega) (by first | omega | ((repeat first | rw [List.length_append] | rw [List.length_cons] | rw [List.length_nil] | rw [List.length_take] | rw [List.length_drop]) <;> omega)) (by omega) ?_
 intro vv9 w45 hap
 obtain ⟨A45, cap45, rfl, hA45, hk45, own45x⟩ := app_many (f := castc) (xs := ((vrow s (a5 : Int) (t10 : Int)).take (GV.plc (i10 : Int) (vrow s (a5 : Int) (t10 : Int))))) (ys := ((vrow s (a5 : Int) (t10 : Int)).drop (GV.plc (i10 : Int) (vrow s (a5 : Int) (t10 : Int)) + 1))) (A := A41) (cap := cap41) hap hl45 castc_len
 have own45 : ∀ q, inA A45 q → w32.heap.size ≤ q ∧ q ≠ b24 := fun q hq => by rcases own45x q hq with h | h; (have h8 := own41 q h; have h9 := lt41 q h; show w32.heap.size ≤ q ∧ q ≠ b24; omega); (show w32.heap.size ≤ q ∧ q ≠ b24; omega)
 refine ⟨Keep.fresh K42 hk45 (by intro i hi hs; first | exact hs | (exfalso; have h1 := own41 i hs; have h2 := lt41 i hs; omega) | (have h1 := own41 i hs; have h2 := lt41 i hs; show _ ∨ _; omega)), ?_⟩
 have K46 := Keep.fresh K42 hk45 (by intro i hi hs; first | exact hs | (exfalso; have h1 := own41 i hs; have h2 := lt41 i hs; omega) | (have h1 := own41 i hs; have h2 := lt41 i hs; show _ ∨ _; omega))
 have hsz47 := Keep.size hk45
 replace hy := hy.keep hk45 (fun hs => by have h1 := own41 _ hs; have h2 := lt41 _ hs; omega)
 replace hb24_29 := hb24_29.keep hk45 (fun hs => by have h1 := own41 _ hs; have h2 := lt41 _ hs; omega)
 replace hP := hP.keep hk45 (fun hs => by have h1 := own41 _ hs; have h2 := lt41 _ hs; omega)
 replace hR := hR.keep hk45 (fun hs => by have h1 := own41 _ hs; have h2 := lt41 _ hs; omega)
 replace hra := RAll.keep hra hk45 (fun q h1 _ _ _ hs => by have h4 := hFlt q h1; have h1 := own41 q hs; have h2 := lt41 q hs; omega)
 replace hK0 := Keep.fresh hK0 hk45 (by intro i hi hs; first | exact hs | (exfalso; have h1 := own41 i hs; have h2 := lt41 i hs; omega) | (have h1 := own41 i hs; have h2 := lt41 i hs; show _ ∨ _; omega))
 have lt45 := SlT.lt hA45
 have hcap45 := SlT.cap_le hA45
 refine Gn [19] [0, 2, 3, 9, 10, 13, 67, 69] <| GI_final 19 (by kernel_rfl) (by kernel_rfl) <| Ts1 (DR.mk A45 cap45 (((vrow s (a5 : Int) (t10 : Int)).take (GV.plc (i10 : Int) (vrow s (a5 : Int) (t10 : Int)))) ++ ((vrow s (a5 : Int) (t10 : Int)).drop (GV.plc (i10 : Int) (vrow s (a5 : Int) (t10 : Int)) + 1))) ((s.rc (a5 : Int) (t10 : Int)).d.isSome) (dTo (s.rc (a5 : Int) (t10 : Int))) (dLv (s.rc (a5 : Int) (t10 : Int))) (dN (s.rc (a5 : Int) (t10 : Int))) ((s.rc (a5 : Int) (t10 : Int)).got.v) ((s.rc (a5 : Int) (t10 : Int)).got.c) ((s.rc (a5 : Int) (t10 : Int)).till) ((s.rc (a5 : Int) (t10 : Int)).n) : DR) 0 (.slice A45 ((((vrow s (a5 : Int) (t10 : Int)).take (GV.plc (i10 : Int) (vrow s (a5 : Int) (t10 : Int)))) ++ ((vrow s (a5 : Int) (t10 : Int)).drop (GV.plc (i10 : Int) (vrow s (a5 : Int) (t10 : Int)) + 1))).length) cap45) hR hx17 rfl ?_
 intro w48 hat52 hk50 hz51 hlhx53 hx53
 have hsz54 := Keep.size hk50
 replace hy := hy.k1 hk50
 replace hb24_29 := hb24_29.k1 hk50
 replace hP := hP.k1 hk50
 replace hA45 := hA45.keep hk50 (fun q hq hs => by have hs : q = bR := hs; have g0 := own45 q hq; have g1 := lt45 q hq; omega)
 replace hra := RAll.keep hra hk50 (fun _ _ _ _ h hs => h hs)
 replace hK0 := fro hK0 hk50 hdv.own.2.2
 refine Oe <| V_seq <| Vr <| On 2 [3, 9, 10, 13, 70, 71] <| Ok (kl 101 #[(.tmp 70),(.tmp 71)] #[33, 3]) 101 #[pt y, nt (i10 : Int)] (some 72) (dopen_spec y bP oP cP LP TP s i10 _ _ _ hy hP hqi10 hst10 hpl) ?_
 rintro _ w55 ⟨rfl, hk56⟩
 refine ⟨_, rfl, ?_⟩
 have hsz57 := Keep.size hk56
 replace hy := hy.k0 hk56
 replace hb24_29 := hb24_29.k0 hk56
 replace hP := hP.k0 hk56
 replace hat52 := hat52.keep hk56 id
 replace hA45 := hA45.keep0 hk56
 replace hra := RAll.keep hra hk56 (fun _ _ _ _ _ f => f)
 replace hK0 := hK0.tn hk56
 refine Oe <| Vb (decide (sta10 = 0)) (fun hc58 => ?_) (fun hc58 => ?_)
 ·
  refine V_seq <| Vd1 (acts [10, 11, 14]) none_ [5, 6, 7, 8, 9, 10, 1, 2, 3, 4, 11, 0, 12, 13, 14] fun w60 hk59 he61 K64 _ => ?_
  replace hb24_29 := hb24_29.k0 hk59
  replace hP := hP.k0 hk59
  replace hat52 := hat52.keep hk59 id
  replace hra := RAll.keep hra hk59 (fun _ _ _ _ _ f => f)
  replace hK0 := hK0.tn hk59
  have qhb24_29 := hb24_29
  have qhP := hP
  have qhat52 := hat52
  refine Ma 0 (Vt.cells v9) 6 qhb24_29 id (take_all (Vt.len _)) (Vt.len _) <| Gn [9, 10, 1, 2, 3, 4, 11, 0, 12, 13, 14] [9, 78, 81] <| Ma (oR + (a5 * 4 + t10) * 9 + 5) (Wgt.cells ((s.rc (a5 : Int) (t10 : Int)).got)) 2 qhat52.blk id (At.sub qhat52 (es_at hx53) (by decide) rfl) (Wgt.len _) <| Hg (rGain_spec v9 ((s.rc (a5 : Int) (t10 : Int)).got) _) ?_
  rintro _ w65 ⟨rfl, hk66⟩
  have K67 := K64.tr (Keep.ofNone hk66)
  refine ⟨_, rfl, K67, ?_⟩
  have hzK67 := Keep.size K67
  have hsz68 := Keep.size hk66
  replace hat52 := hat52.keep hk66 id
  replace hra := RAll.keep hra hk66 (fun _ _ _ _ _ f => f)
  replace hK0 := hK0.tn hk66
  refine Gn [4, 11, 0, 12, 13, 14] [9, 76, 83] <| Ma (oP + i10 * 7 + 4) (Tly.cells tl10) 3 qhP.blk id (At.sub qhP (es_at hqi10) (by decide) rfl) (Tly.len _) <| Hg (rSub_spec tl10 (gainT v9 ((s.rc (a5 : Int) (t10 : Int)).got)) _) ?_
  rintro _ w69 ⟨rfl, hk70⟩
  have K71 := K67.tr (Keep.ofNone hk70)
  refine ⟨_, rfl, K71, ?_⟩
  have hzK71 := Keep.size K71
  have hsz72 := Keep.size hk70
  replace hy := hy.k0 ((hk59.tr hk66).tr hk70)
  replace hP := hP.k0 (hk66.tr hk70)
  replace hat52 := hat52.keep hk70 id
  replace hA45 := hA45.keep0 ((hk59.tr hk66).tr hk70)
  replace hra := RAll.keep hra hk70 (fun _ _ _ _ _ f => f)
  replace hK0 := hK0.tn hk70
  refine Gn [14] [84, 86] <| GI_final 14 (by kernel_rfl) (by kernel_rfl) <| TsN (m := 3) (some (PollS.mk (t10 : Int) (subT tl10 (gainT v9 ((s.rc (a5 : Int) (t10 : Int)).got))) sta10 stp10) : (Option PollS)) 4 (Tly.cells (subT tl10 (gainT v9 ((s.rc (a5 : Int) (t10 : Int)).got)))) hP hqi10 rfl (Tly.len _) (Tly.one _) ?_
  intro w73 hat77 hk75 hz76 hlhx78 hx78
  have hsz79 := Keep.size hk75
  replace hy := hy.k1 hk75
  replace hat52 := hat52.keep hk75 (by show ¬ (_ = _); omega)
  replace hA45 := hA45.keep hk75 (fun q hq hs => by have hs : q = bP := hs; have g0 := own45 q hq; have g1 := lt45 q hq; omega)
  replace hra := RAll.keep hra hk75 (fun _ _ _ h _ hs => h hs)
  replace hK0 := fro hK0 hk75 hdv.own.2.1
  refine Oer <| Ose [(8, nt 0)] <| Rt ?_
  have hE : unvE s (a5 : Int) (i10 : Int) = 0 := by unfold unvE; rw [if_neg (fun h => h ⟨by omega, by omega⟩)]; rw [hq10]; dsimp only; rw [if_pos (hv1.symm.trans hp)]
  have hS : unvS s (a5 : Int) (i10 : Int) now = (VS.setP (VS.mk s.ps (GV.delC (a5 : Int) (i10 : Int) s.cs) s.rc) i10 (PollS.mk (t10 : Int) (subT tl10 (gainT v9 ((s.rc (a5 : Int) (t10 : Int)).got))) sta10 stp10)) := by unfold unvS; rw [if_pos hE, hq10]; dsimp only; rw [if_pos (by simpa using hc58), hv9]; rfl
  have hvr : ∀ a b, vrow (VS.setP (VS.mk s.ps (GV.delC (a5 : Int) (i10 : Int) s.cs) s.rc) i10 (PollS.mk (t10 : Int) (subT tl10 (gainT v9 ((s.rc (a5 : Int) (t10 : Int)).got))) sta10 stp10)) a b = if a = (a5 : Int) ∧ (t10 : Int) = b then (vrow s a b).filter (fun q => decide (q.1 ≠ (i10 : Int))) else vrow s a b := fun a b => by have h9 := vrow_unv hdi.srt (a5 : Int) (i10 : Int) (s' := (VS.setP (VS.mk s.ps (GV.delC (a5 : Int) (i10 : Int) s.cs) s.rc) i10 (PollS.mk (t10 : Int) (subT tl10 (gainT v9 ((s.rc (a5 : Int) (t10 : Int)).got))) sta10 stp10))) rfl (fun r => trk_setP (s := (VS.mk s.ps (GV.delC (a5 : Int) (i10 : Int) s.cs) s.rc)) (q' := (PollS.mk (t10 : Int) (subT tl10 (gainT v9 ((s.rc (a5 : Int) (t10 : Int)).got))) sta10 stp10)) hqi10 rfl r) a b; rw [trk_at hq10] at h9; exact h9
  have hls : (((vrow s (a5 : Int) (t10 : Int)).take (GV.plc (i10 : Int) (vrow s (a5 : Int) (t10 : Int)))) ++ ((vrow s (a5 : Int) (t10 : Int)).drop (GV.plc (i10 : Int) (vrow s (a5 : Int) (t10 : Int)) + 1))) = vrow (VS.setP (VS.mk s.ps (GV.delC (a5 : Int) (i10 : Int) s.cs) s.rc) i10 (PollS.mk (t10 : Int) (subT tl10 (gainT v9 ((s.rc (a5 : Int) (t10 : Int)).got))) sta10 stp10)) (a5 : Int) (t10 : Int) := by rw [hvr, if_pos ⟨rfl, rfl⟩, GV.fil_plc (vrow_srt hdi.srt _ _) hp]
  have hra9 := RAll.set (F' := (fun q => F q ∨ inA A45 q)) (j := a5 * 4 + t10) (s' := (VS.setP (VS.mk s.ps (GV.delC (a5 : Int) (i10 : Int) s.cs) s.rc) i10 (PollS.mk (t10 : Int) (subT tl10 (gainT v9 ((s.rc (a5 : Int) (t10 : Int)).got))) sta10 stp10))) hra (fun q h => .inl h) A45 cap45 (by rw [vrJ_at _ _ _ htl10, ← hls]; exact hA45) (fun q hq => by have h1 := own45 q hq; exact ⟨.inr hq, by omega, by omega, by omega⟩) (fun i hi _ => ⟨by show vrow _ _ _ = vrow _ _ _; rw [hvr, if_neg (rc_other hi)], rfl⟩) (e := (DR.mk A45 cap45 (((vrow s (a5 : Int) (t10 : Int)).take (GV.plc (i10 : Int) (vrow s (a5 : Int) (t10 : Int)))) ++ ((vrow s (a5 : Int) (t10 : Int)).drop (GV.plc (i10 : Int) (vrow s (a5 : Int) (t10 : Int)) + 1))) ((s.rc (a5 : Int) (t10 : Int)).d.isSome) (dTo (s.rc (a5 : Int) (t10 : Int))) (dLv (s.rc (a5 : Int) (t10 : Int))) (dN (s.rc (a5 : Int) (t10 : Int))) ((s.rc (a5 : Int) (t10 : Int)).got.v) ((s.rc (a5 : Int) (t10 : Int)).got.c) ((s.rc (a5 : Int) (t10 : Int)).till) ((s.rc (a5 : Int) (t10 : Int)).n))) (by rw [vrJ_at _ _ _ htl10, rcJ_at _ _ _ htl10, ← hls]; rfl)
  exact X_return _ rfl ⟨by rw [hE], ⟨(fun q => F q ∨ inA A45 q), by rw [hS]; exact ⟨((hdi.cs_ (GV.Srt.del hdi.srt _ _).1 (fun x hx => GV.delC_mem hx)).setP (i := i10) (q := (PollS.mk (t10 : Int) (subT tl10 (gainT v9 ((s.rc (a5 : Int) (t10 : Int)).got))) sta10 stp10)) (have h9 := hdi.trk _ _ hqi10; h9) hst10),(fun q hq => by rcases hq with hq | hq; (have h9 := hFlt q hq; omega); exact SlT.lt hA45 q hq), _, _, _, _, _, _, _, hy, ⟨_, _, hat77⟩, ⟨_, _, (by have h9 := hat52; first | exact h9 | ((try rw [List.set_set] at h9); exact h9))⟩, hdv.ne, ⟨.inl hdv.own.1, .inl hdv.own.2.1, .inl hdv.own.2.2⟩, by rw [List.length_set]; exact hdv.rlen, hra9⟩, fun q hq => hq.imp id (fun h => by have h9 := own45 q h; omega)⟩, hK0⟩
 refine Vsk <| V_seq <| Vd1 (acts [6]) none_ [4, 5, 6, 0, 1, 2, 3, 7, 8] fun w81 hk80 he82 K85 _ => ?_
 replace hb24_29 := hb24_29.k0 hk80
 replace hP := hP.k0 hk80
 replace hat52 := hat52.keep hk80 id
 replace hra := RAll.keep hra hk80 (fun _ _ _ _ _ f => f)
 replace hK0 := hK0.tn hk80
 have qhb24_29 := hb24_29
 have qhP := hP
 refine Gn [5, 6, 0, 1, 2, 3, 7, 8] [3, 9, 10, 13, 91] <| Mr 2 (nt v9.level) qhb24_29 <| Hq K85 (rPeriod_spec v9.level 8 _ ⟨hlv0, hlv6⟩) <| Gn [3, 7, 8] [3, 9, 10, 13, 89, 93] <| Mc0 (oP + i10 * 7 + 3) (nt stp10) qhP.blk (At.cell qhP (es_at hqi10) rfl) <| Gn [] [3, 9, 10, 13, 14] <| GI_end <| X_then <| V_seq <| V_seq <| Vd1 (acts [4]) none_ [0, 1, 2, 3, 4, 5, 6, 7, 8, 9] fun w90 hk89 he91 K94 _ => ?_
 replace hb24_29 := hb24_29.k0 hk89
 replace hP := hP.k0 hk89
 replace hat52 := hat52.keep hk89 id
 replace hra := RAll.keep hra hk89 (fun _ _ _ _ _ f => f)
 replace hK0 := hK0.tn hk89
 have qhb24_29 := hb24_29
 have qhP := hP
 refine Gn [2, 3, 4, 5, 6, 7, 8, 9] [3, 10, 13, 14, 96] <| Ma (oP + i10 * 7) (dpc (some (PollS.mk (t10 : Int) tl10 sta10 stp10))) 7 qhP.blk id (At.elem' qhP (es_at hqi10)) (At.len qhP (es_at hqi10)) <| Ma 0 (Vt.cells v9) 6 qhb24_29 id (take_all (Vt.len _)) (Vt.len _) <| Hg (dwon_spec (PollS.mk (t10 : Int) tl10 sta10 stp10) v9 _) ?_
 rintro _ w95 ⟨rfl, hk96⟩
 have K97 := K94.tr (Keep.ofNone hk96)
 refine ⟨_, rfl, K97, ?_⟩
 have hzK97 := Keep.size K97
 have hsz98 := Keep.size hk96
 replace hy := hy.k0 ((hk80.tr hk89).tr hk96)
 replace hb24_29 := hb24_29.k0 hk96
 replace hP := hP.k0 hk96
 replace hat52 := hat52.keep hk96 id
 replace hA45 := hA45.keep0 ((hk80.tr hk89).tr hk96)
 replace hra := RAll.keep hra hk96 (fun _ _ _ _ _ f => f)
 replace hK0 := hK0.tn hk96
 refine Gs [6, 7, 8, 9] [(3, nt now),(10, .pointer (some ⟨bR, oR + (a5 * 4 + t10) * 9, none⟩)),(13, pt b24),(14, nt (i64.wrap (stp10 + (cvPeriod v9.level 8)))),(100, .bool (wonV v9 (dst sta10)))] ?_
 cases hg99 : (wonV v9 (dst sta10))
 ·
  refine GI_eq [(3, nt now),(10, .pointer (some ⟨bR, oR + (a5 * 4 + t10) * 9, none⟩)),(13, pt b24),(14, nt (i64.wrap (stp10 + (cvPeriod v9.level 8)))),(100, .bool false)] (by first | rfl | rw [hg99]) <| Gn [] [10, 13, 14, 104] <| GI_end <| X_then <| Vf <| Vsk <| Vs [(8, nt 0)] <| V_ret ?_
  have hE : unvE s (a5 : Int) (i10 : Int) = 0 := by unfold unvE; rw [if_neg (fun h => h ⟨by omega, by omega⟩)]; rw [hq10]; dsimp only; rw [if_pos (hv1.symm.trans hp)]
  have hcl : ¬ sta10 = 0 := by simpa using hc58
  have hS : unvS s (a5 : Int) (i10 : Int) now = (VS.mk s.ps (GV.delC (a5 : Int) (i10 : Int) s.cs) s.rc) := by unfold unvS; rw [if_pos hE, hq10]; dsimp only; rw [if_neg hcl, hv9]; dsimp only [Option.getD_some]; rw [if_neg (by rw [← dst_won hcl]; simpa using hg99)]
  have hvr : ∀ a b, vrow (VS.mk s.ps (GV.delC (a5 : Int) (i10 : Int) s.cs) s.rc) a b = if a = (a5 : Int) ∧ (t10 : Int) = b then (vrow s a b).filter (fun q => decide (q.1 ≠ (i10 : Int))) else vrow s a b := fun a b => by have h9 := vrow_unv hdi.srt (a5 : Int) (i10 : Int) (s' := (VS.mk s.ps (GV.delC (a5 : Int) (i10 : Int) s.cs) s.rc)) rfl (fun _ => rfl) a b; rw [trk_at hq10] at h9; exact h9
  have hls : (((vrow s (a5 : Int) (t10 : Int)).take (GV.plc (i10 : Int) (vrow s (a5 : Int) (t10 : Int)))) ++ ((vrow s (a5 : Int) (t10 : Int)).drop (GV.plc (i10 : Int) (vrow s (a5 : Int) (t10 : Int)) + 1))) = vrow (VS.mk s.ps (GV.delC (a5 : Int) (i10 : Int) s.cs) s.rc) (a5 : Int) (t10 : Int) := by rw [hvr, if_pos ⟨rfl, rfl⟩, GV.fil_plc (vrow_srt hdi.srt _ _) hp]
  have hra9 := RAll.set (F' := (fun q => F q ∨ inA A45 q)) (j := a5 * 4 + t10) (s' := (VS.mk s.ps (GV.delC (a5 : Int) (i10 : Int) s.cs) s.rc)) hra (fun q h => .inl h) A45 cap45 (by rw [vrJ_at _ _ _ htl10, ← hls]; exact hA45) (fun q hq => by have h1 := own45 q hq; exact ⟨.inr hq, by omega, by omega, by omega⟩) (fun i hi _ => ⟨by show vrow _ _ _ = vrow _ _ _; rw [hvr, if_neg (rc_other hi)], rfl⟩) (e := (DR.mk A45 cap45 (((vrow s (a5 : Int) (t10 : Int)).take (GV.plc (i10 : Int) (vrow s (a5 : Int) (t10 : Int)))) ++ ((vrow s (a5 : Int) (t10 : Int)).drop (GV.plc (i10 : Int) (vrow s (a5 : Int) (t10 : Int)) + 1))) ((s.rc (a5 : Int) (t10 : Int)).d.isSome) (dTo (s.rc (a5 : Int) (t10 : Int))) (dLv (s.rc (a5 : Int) (t10 : Int))) (dN (s.rc (a5 : Int) (t10 : Int))) ((s.rc (a5 : Int) (t10 : Int)).got.v) ((s.rc (a5 : Int) (t10 : Int)).got.c) ((s.rc (a5 : Int) (t10 : Int)).till) ((s.rc (a5 : Int) (t10 : Int)).n))) (by rw [vrJ_at _ _ _ htl10, rcJ_at _ _ _ htl10, ← hls]; rfl)
  exact X_return _ rfl ⟨by rw [hE], ⟨(fun q => F q ∨ inA A45 q), by rw [hS]; exact ⟨(hdi.cs_ (GV.Srt.del hdi.srt _ _).1 (fun x hx => GV.delC_mem hx)),(fun q hq => by rcases hq with hq | hq; (have h9 := hFlt q hq; omega); exact SlT.lt hA45 q hq), _, _, _, _, _, _, _, hy, ⟨_, _, hP⟩, ⟨_, _, (by have h9 := hat52; first | exact h9 | ((try rw [List.set_set] at h9); exact h9))⟩, hdv.ne, ⟨.inl hdv.own.1, .inl hdv.own.2.1, .inl hdv.own.2.2⟩, by rw [List.length_set]; exact hdv.rlen, hra9⟩, fun q hq => hq.imp id (fun h => by have h9 := own45 q h; omega)⟩, hK0⟩
 refine GI_eq [(3, nt now),(10, .pointer (some ⟨bR, oR + (a5 * 4 + t10) * 9, none⟩)),(13, pt b24),(14, nt (i64.wrap (stp10 + (cvPeriod v9.level 8)))),(100, .bool true)] (by first | rfl | rw [hg99]) <| Gn [] [10, 13, 14, 104] <| GI_end <| X_then <| Vi (i64.wrap (stp10 + (cvPeriod v9.level 8)) > now) (fun hc100 => ?_) (fun hc100 => ?_)
 ·
  refine V_region <| On 3 [105, 106, 107] <| Lr 3 (nt v9.a) hb24_29 <| Ok (kl 108 #[(.tmp 105),(.tmp 106),(.tmp 108)] #[163, 3, 3]) 108 #[.pointer (some ⟨bR, oR + (a5 * 4 + t10) * 9, none⟩), nt (i64.wrap (stp10 + (cvPeriod v9.level 8))), nt v9.a] (some 109) (djoin_spec bR oR cR (a5 * 4 + t10) _ _ (rs.set (a5 * 4 + t10) (DR.mk A45 cap45 (((vrow s (a5 : Int) (t10 : Int)).take (GV.plc (i10 : Int) (vrow s (a5 : Int) (t10 : Int)))) ++ ((vrow s (a5 : Int) (t10 : Int)).drop (GV.plc (i10 : Int) (vrow s (a5 : Int) (t10 : Int)) + 1))) ((s.rc (a5 : Int) (t10 : Int)).d.isSome) (dTo (s.rc (a5 : Int) (t10 : Int))) (dLv (s.rc (a5 : Int) (t10 : Int))) (dN (s.rc (a5 : Int) (t10 : Int))) ((s.rc (a5 : Int) (t10 : Int)).got.v) ((s.rc (a5 : Int) (t10 : Int)).got.c) ((s.rc (a5 : Int) (t10 : Int)).till) ((s.rc (a5 : Int) (t10 : Int)).n))) (DR.mk A45 cap45 (((vrow s (a5 : Int) (t10 : Int)).take (GV.plc (i10 : Int) (vrow s (a5 : Int) (t10 : Int)))) ++ ((vrow s (a5 : Int) (t10 : Int)).drop (GV.plc (i10 : Int) (vrow s (a5 : Int) (t10 : Int)) + 1))) ((s.rc (a5 : Int) (t10 : Int)).d.isSome) (dTo (s.rc (a5 : Int) (t10 : Int))) (dLv (s.rc (a5 : Int) (t10 : Int))) (dN (s.rc (a5 : Int) (t10 : Int))) ((s.rc (a5 : Int) (t10 : Int)).got.v) ((s.rc (a5 : Int) (t10 : Int)).got.c) ((s.rc (a5 : Int) (t10 : Int)).till) ((s.rc (a5 : Int) (t10 : Int)).n)) (i64.wrap (stp10 + (cvPeriod v9.level 8))) v9.a _ hat52 hx53) ?_
  rintro _ w101 ⟨rfl, ⟨_, hj103⟩, hk102⟩
  refine ⟨_, rfl, ?_⟩
  have hsz104 := Keep.size hk102
  replace hy := hy.k1 hk102
  replace hP := hP.k1 hk102
  replace hA45 := hA45.keep hk102 (fun q hq hs => by have hs : q = bR := hs; have g0 := own45 q hq; have g1 := lt45 q hq; omega)
  replace hra := RAll.keep hra hk102 (fun _ _ _ _ h hs => h hs)
  replace hK0 := fro hK0 hk102 hdv.own.2.2
  replace hj103 := (show At _ bR oR _ _ 9 cR (((rs.set (a5 * 4 + t10) (DR.mk A45 cap45 (((vrow s (a5 : Int) (t10 : Int)).take (GV.plc (i10 : Int) (vrow s (a5 : Int) (t10 : Int)))) ++ ((vrow s (a5 : Int) (t10 : Int)).drop (GV.plc (i10 : Int) (vrow s (a5 : Int) (t10 : Int)) + 1))) ((s.rc (a5 : Int) (t10 : Int)).d.isSome) (dTo (s.rc (a5 : Int) (t10 : Int))) (dLv (s.rc (a5 : Int) (t10 : Int))) (dN (s.rc (a5 : Int) (t10 : Int))) ((s.rc (a5 : Int) (t10 : Int)).got.v) ((s.rc (a5 : Int) (t10 : Int)).got.c) ((s.rc (a5 : Int) (t10 : Int)).till) ((s.rc (a5 : Int) (t10 : Int)).n))).set (a5 * 4 + t10) (DR.mk A45 cap45 (((vrow s (a5 : Int) (t10 : Int)).take (GV.plc (i10 : Int) (vrow s (a5 : Int) (t10 : Int)))) ++ ((vrow s (a5 : Int) (t10 : Int)).drop (GV.plc (i10 : Int) (vrow s (a5 : Int) (t10 : Int)) + 1))) ((s.rc (a5 : Int) (t10 : Int)).d.isSome) (dTo (s.rc (a5 : Int) (t10 : Int))) (dLv (s.rc (a5 : Int) (t10 : Int))) (dN (s.rc (a5 : Int) (t10 : Int))) ((s.rc (a5 : Int) (t10 : Int)).got.v) ((s.rc (a5 : Int) (t10 : Int)).got.c) (imax ((s.rc (a5 : Int) (t10 : Int)).till) (i64.wrap (stp10 + (cvPeriod v9.level 8)))) (imax ((s.rc (a5 : Int) (t10 : Int)).n) v9.a))).map DR.cells) from hj103)
  have hjx103 : ((rs.set (a5 * 4 + t10) (DR.mk A45 cap45 (((vrow s (a5 : Int) (t10 : Int)).take (GV.plc (i10 : Int) (vrow s (a5 : Int) (t10 : Int)))) ++ ((vrow s (a5 : Int) (t10 : Int)).drop (GV.plc (i10 : Int) (vrow s (a5 : Int) (t10 : Int)) + 1))) ((s.rc (a5 : Int) (t10 : Int)).d.isSome) (dTo (s.rc (a5 : Int) (t10 : Int))) (dLv (s.rc (a5 : Int) (t10 : Int))) (dN (s.rc (a5 : Int) (t10 : Int))) ((s.rc (a5 : Int) (t10 : Int)).got.v) ((s.rc (a5 : Int) (t10 : Int)).got.c) ((s.rc (a5 : Int) (t10 : Int)).till) ((s.rc (a5 : Int) (t10 : Int)).n))).set (a5 * 4 + t10) (DR.mk A45 cap45 (((vrow s (a5 : Int) (t10 : Int)).take (GV.plc (i10 : Int) (vrow s (a5 : Int) (t10 : Int)))) ++ ((vrow s (a5 : Int) (t10 : Int)).drop (GV.plc (i10 : Int) (vrow s (a5 : Int) (t10 : Int)) + 1))) ((s.rc (a5 : Int) (t10 : Int)).d.isSome) (dTo (s.rc (a5 : Int) (t10 : Int))) (dLv (s.rc (a5 : Int) (t10 : Int))) (dN (s.rc (a5 : Int) (t10 : Int))) ((s.rc (a5 : Int) (t10 : Int)).got.v) ((s.rc (a5 : Int) (t10 : Int)).got.c) (imax ((s.rc (a5 : Int) (t10 : Int)).till) (i64.wrap (stp10 + (cvPeriod v9.level 8)))) (imax ((s.rc (a5 : Int) (t10 : Int)).n) v9.a)))[a5 * 4 + t10]? = some (DR.mk A45 cap45 (((vrow s (a5 : Int) (t10 : Int)).take (GV.plc (i10 : Int) (vrow s (a5 : Int) (t10 : Int)))) ++ ((vrow s (a5 : Int) (t10 : Int)).drop (GV.plc (i10 : Int) (vrow s (a5 : Int) (t10 : Int)) + 1))) ((s.rc (a5 : Int) (t10 : Int)).d.isSome) (dTo (s.rc (a5 : Int) (t10 : Int))) (dLv (s.rc (a5 : Int) (t10 : Int))) (dN (s.rc (a5 : Int) (t10 : Int))) ((s.rc (a5 : Int) (t10 : Int)).got.v) ((s.rc (a5 : Int) (t10 : Int)).got.c) (imax ((s.rc (a5 : Int) (t10 : Int)).till) (i64.wrap (stp10 + (cvPeriod v9.level 8)))) (imax ((s.rc (a5 : Int) (t10 : Int)).n) v9.a)) := by rw [List.getElem?_set_self (List.getElem?_eq_some_iff.1 hx53).1]
  have hjl103 : ((rs.set (a5 * 4 + t10) (DR.mk A45 cap45 (((vrow s (a5 : Int) (t10 : Int)).take (GV.plc (i10 : Int) (vrow s (a5 : Int) (t10 : Int)))) ++ ((vrow s (a5 : Int) (t10 : Int)).drop (GV.plc (i10 : Int) (vrow s (a5 : Int) (t10 : Int)) + 1))) ((s.rc (a5 : Int) (t10 : Int)).d.isSome) (dTo (s.rc (a5 : Int) (t10 : Int))) (dLv (s.rc (a5 : Int) (t10 : Int))) (dN (s.rc (a5 : Int) (t10 : Int))) ((s.rc (a5 : Int) (t10 : Int)).got.v) ((s.rc (a5 : Int) (t10 : Int)).got.c) ((s.rc (a5 : Int) (t10 : Int)).till) ((s.rc (a5 : Int) (t10 : Int)).n))).set (a5 * 4 + t10) (DR.mk A45 cap45 (((vrow s (a5 : Int) (t10 : Int)).take (GV.plc (i10 : Int) (vrow s (a5 : Int) (t10 : Int)))) ++ ((vrow s (a5 : Int) (t10 : Int)).drop (GV.plc (i10 : Int) (vrow s (a5 : Int) (t10 : Int)) + 1))) ((s.rc (a5 : Int) (t10 : Int)).d.isSome) (dTo (s.rc (a5 : Int) (t10 : Int))) (dLv (s.rc (a5 : Int) (t10 : Int))) (dN (s.rc (a5 : Int) (t10 : Int))) ((s.rc (a5 : Int) (t10 : Int)).got.v) ((s.rc (a5 : Int) (t10 : Int)).got.c) (imax ((s.rc (a5 : Int) (t10 : Int)).till) (i64.wrap (stp10 + (cvPeriod v9.level 8)))) (imax ((s.rc (a5 : Int) (t10 : Int)).n) v9.a))).length = (rs.set (a5 * 4 + t10) (DR.mk A45 cap45 (((vrow s (a5 : Int) (t10 : Int)).take (GV.plc (i10 : Int) (vrow s (a5 : Int) (t10 : Int)))) ++ ((vrow s (a5 : Int) (t10 : Int)).drop (GV.plc (i10 : Int) (vrow s (a5 : Int) (t10 : Int)) + 1))) ((s.rc (a5 : Int) (t10 : Int)).d.isSome) (dTo (s.rc (a5 : Int) (t10 : Int))) (dLv (s.rc (a5 : Int) (t10 : Int))) (dN (s.rc (a5 : Int) (t10 : Int))) ((s.rc (a5 : Int) (t10 : Int)).got.v) ((s.rc (a5 : Int) (t10 : Int)).got.c) ((s.rc (a5 : Int) (t10 : Int)).till) ((s.rc (a5 : Int) (t10 : Int)).n))).length := List.length_set
  refine Oer <| Ose [(8, nt 0)] <| V_ret ?_
  have hE : unvE s (a5 : Int) (i10 : Int) = 0 := by unfold unvE; rw [if_neg (fun h => h ⟨by omega, by omega⟩)]; rw [hq10]; dsimp only; rw [if_pos (hv1.symm.trans hp)]
  have hcl : ¬ sta10 = 0 := by simpa using hc58
  have hS : unvS s (a5 : Int) (i10 : Int) now = (VS.setR (VS.mk s.ps (GV.delC (a5 : Int) (i10 : Int) s.cs) s.rc) (a5 : Int) (t10 : Int) (joinR (s.rc (a5 : Int) (t10 : Int)) (w64 (stp10 + cvPeriod v9.level 8)) v9.a now)) := by unfold unvS; rw [if_pos hE, hq10]; dsimp only; rw [if_neg hcl, hv9]; dsimp only [Option.getD_some]; (rw [if_pos (by rw [← dst_won hcl]; simpa using hg99)]) <;> rfl
  have hvr : ∀ a b, vrow (VS.setR (VS.mk s.ps (GV.delC (a5 : Int) (i10 : Int) s.cs) s.rc) (a5 : Int) (t10 : Int) (joinR (s.rc (a5 : Int) (t10 : Int)) (w64 (stp10 + cvPeriod v9.level 8)) v9.a now)) a b = if a = (a5 : Int) ∧ (t10 : Int) = b then (vrow s a b).filter (fun q => decide (q.1 ≠ (i10 : Int))) else vrow s a b := fun a b => by have h9 := vrow_unv hdi.srt (a5 : Int) (i10 : Int) (s' := (VS.setR (VS.mk s.ps (GV.delC (a5 : Int) (i10 : Int) s.cs) s.rc) (a5 : Int) (t10 : Int) (joinR (s.rc (a5 : Int) (t10 : Int)) (w64 (stp10 + cvPeriod v9.level 8)) v9.a now))) rfl (fun _ => rfl) a b; rw [trk_at hq10] at h9; exact h9
  have hls : (((vrow s (a5 : Int) (t10 : Int)).take (GV.plc (i10 : Int) (vrow s (a5 : Int) (t10 : Int)))) ++ ((vrow s (a5 : Int) (t10 : Int)).drop (GV.plc (i10 : Int) (vrow s (a5 : Int) (t10 : Int)) + 1))) = vrow (VS.setR (VS.mk s.ps (GV.delC (a5 : Int) (i10 : Int) s.cs) s.rc) (a5 : Int) (t10 : Int) (joinR (s.rc (a5 : Int) (t10 : Int)) (w64 (stp10 + cvPeriod v9.level 8)) v9.a now)) (a5 : Int) (t10 : Int) := by rw [hvr, if_pos ⟨rfl, rfl⟩, GV.fil_plc (vrow_srt hdi.srt _ _) hp]
  have hra9 := RAll.set (F' := (fun q => F q ∨ inA A45 q)) (j := a5 * 4 + t10) (s' := (VS.setR (VS.mk s.ps (GV.delC (a5 : Int) (i10 : Int) s.cs) s.rc) (a5 : Int) (t10 : Int) (joinR (s.rc (a5 : Int) (t10 : Int)) (w64 (stp10 + cvPeriod v9.level 8)) v9.a now))) hra (fun q h => .inl h) A45 cap45 (by rw [vrJ_at _ _ _ htl10, ← hls]; exact hA45) (fun q hq => by have h1 := own45 q hq; exact ⟨.inr hq, by omega, by omega, by omega⟩) (fun i hi _ => ⟨by show vrow _ _ _ = vrow _ _ _; rw [hvr, if_neg (rc_other hi)], by show updR _ _ _ _ _ _ = _; unfold updR; rw [if_neg (fun h => rc_other hi ⟨h.1, h.2.symm⟩)]; rfl⟩) (e := (DR.mk A45 cap45 (((vrow s (a5 : Int) (t10 : Int)).take (GV.plc (i10 : Int) (vrow s (a5 : Int) (t10 : Int)))) ++ ((vrow s (a5 : Int) (t10 : Int)).drop (GV.plc (i10 : Int) (vrow s (a5 : Int) (t10 : Int)) + 1))) ((s.rc (a5 : Int) (t10 : Int)).d.isSome) (dTo (s.rc (a5 : Int) (t10 : Int))) (dLv (s.rc (a5 : Int) (t10 : Int))) (dN (s.rc (a5 : Int) (t10 : Int))) ((s.rc (a5 : Int) (t10 : Int)).got.v) ((s.rc (a5 : Int) (t10 : Int)).got.c) (imax ((s.rc (a5 : Int) (t10 : Int)).till) (i64.wrap (stp10 + (cvPeriod v9.level 8)))) (imax ((s.rc (a5 : Int) (t10 : Int)).n) v9.a))) (by rw [vrJ_at _ _ _ htl10, rcJ_at _ _ _ htl10, ← hls]; show _ = DR.of _ _ _ (updR _ _ _ _ _ _); unfold updR; rw [if_pos ⟨rfl, rfl⟩]; unfold joinR; rw [if_pos (by assumption)]; rfl)
  exact X_return _ rfl ⟨by rw [hE], ⟨(fun q => F q ∨ inA A45 q), by rw [hS]; exact ⟨((hdi.cs_ (GV.Srt.del hdi.srt _ _).1 (fun x hx => GV.delC_mem hx)).setR_ _ _ (by intro d hd; rw [joinR_d] at hd; exact hdi.inv.dels _ _ d hd)),(fun q hq => by rcases hq with hq | hq; (have h9 := hFlt q hq; omega); exact SlT.lt hA45 q hq), _, _, _, _, _, _, _, hy, ⟨_, _, hP⟩, ⟨_, _, (by have h9 := hj103; first | exact h9 | ((try rw [List.set_set] at h9); exact h9))⟩, hdv.ne, ⟨.inl hdv.own.1, .inl hdv.own.2.1, .inl hdv.own.2.2⟩, by rw [List.length_set]; exact hdv.rlen, hra9⟩, fun q hq => hq.imp id (fun h => by have h9 := own45 q h; omega)⟩, hK0⟩
 refine Vsk <| Vs [(8, nt 0)] <| V_ret ?_
 have hE : unvE s (a5 : Int) (i10 : Int) = 0 := by unfold unvE; rw [if_neg (fun h => h ⟨by omega, by omega⟩)]; rw [hq10]; dsimp only; rw [if_pos (hv1.symm.trans hp)]
 have hcl : ¬ sta10 = 0 := by simpa using hc58
 have hS : unvS s (a5 : Int) (i10 : Int) now = (VS.mk s.ps (GV.delC (a5 : Int) (i10 : Int) s.cs) s.rc) := by unfold unvS; rw [if_pos hE, hq10]; dsimp only; rw [if_neg hcl, hv9]; dsimp only [Option.getD_some]; rw [if_pos (by rw [← dst_won hcl]; simpa using hg99)]; show VS.setR _ _ _ _ = _; unfold VS.setR joinR; rw [if_neg (by assumption)]; simp only [updR_same]
 have hvr : ∀ a b, vrow (VS.mk s.ps (GV.delC (a5 : Int) (i10 : Int) s.cs) s.rc) a b = if a = (a5 : Int) ∧ (t10 : Int) = b then (vrow s a b).filter (fun q => decide (q.1 ≠ (i10 : Int))) else vrow s a b := fun a b => by have h9 := vrow_unv hdi.srt (a5 : Int) (i10 : Int) (s' := (VS.mk s.ps (GV.delC (a5 : Int) (i10 : Int) s.cs) s.rc)) rfl (fun _ => rfl) a b; rw [trk_at hq10] at h9; exact h9
 have hls : (((vrow s (a5 : Int) (t10 : Int)).take (GV.plc (i10 : Int) (vrow s (a5 : Int) (t10 : Int)))) ++ ((vrow s (a5 : Int) (t10 : Int)).drop (GV.plc (i10 : Int) (vrow s (a5 : Int) (t10 : Int)) + 1))) = vrow (VS.mk s.ps (GV.delC (a5 : Int) (i10 : Int) s.cs) s.rc) (a5 : Int) (t10 : Int) := by rw [hvr, if_pos ⟨rfl, rfl⟩, GV.fil_plc (vrow_srt hdi.srt _ _) hp]
 have hra9 := RAll.set (F' := (fun q => F q ∨ inA A45 q)) (j := a5 * 4 + t10) (s' := (VS.mk s.ps (GV.delC (a5 : Int) (i10 : Int) s.cs) s.rc)) hra (fun q h => .inl h) A45 cap45 (by rw [vrJ_at _ _ _ htl10, ← hls]; exact hA45) (fun q hq => by have h1 := own45 q hq; exact ⟨.inr hq, by omega, by omega, by omega⟩) (fun i hi _ => ⟨by show vrow _ _ _ = vrow _ _ _; rw [hvr, if_neg (rc_other hi)], rfl⟩) (e := (DR.mk A45 cap45 (((vrow s (a5 : Int) (t10 : Int)).take (GV.plc (i10 : Int) (vrow s (a5 : Int) (t10 : Int)))) ++ ((vrow s (a5 : Int) (t10 : Int)).drop (GV.plc (i10 : Int) (vrow s (a5 : Int) (t10 : Int)) + 1))) ((s.rc (a5 : Int) (t10 : Int)).d.isSome) (dTo (s.rc (a5 : Int) (t10 : Int))) (dLv (s.rc (a5 : Int) (t10 : Int))) (dN (s.rc (a5 : Int) (t10 : Int))) ((s.rc (a5 : Int) (t10 : Int)).got.v) ((s.rc (a5 : Int) (t10 : Int)).got.c) ((s.rc (a5 : Int) (t10 : Int)).till) ((s.rc (a5 : Int) (t10 : Int)).n))) (by rw [vrJ_at _ _ _ htl10, rcJ_at _ _ _ htl10, ← hls]; rfl)
 exact X_return _ rfl ⟨by rw [hE], ⟨(fun q => F q ∨ inA A45 q), by rw [hS]; exact ⟨(hdi.cs_ (GV.Srt.del hdi.srt _ _).1 (fun x hx => GV.delC_mem hx)),(fun q hq => by rcases hq with hq | hq; (have h9 := hFlt q hq; omega); exact SlT.lt hA45 q hq), _, _, _, _, _, _, _, hy, ⟨_, _, hP⟩, ⟨_, _, (by have h9 := hat52; first | exact h9 | ((try rw [List.set_set] at h9); exact h9))⟩, hdv.ne, ⟨.inl hdv.own.1, .inl hdv.own.2.1, .inl hdv.own.2.2⟩, by rw [List.length_set]; exact hdv.rlen, hra9⟩, fun q hq => hq.imp id (fun h => by have h9 := own45 q h; omega)⟩, hK0⟩
end Go.Al
namespace Go.Al
open Go Go.RowKit Go.Proofs
variable {s : VS}
def gotS (s : VS) (a t : Int) (wt : Wgt) : VS := retally (s.rc a t).got wt (s.setR a t { s.rc a t with got := wt }) (vrow s a t)
theorem retally1_ps (was now : Wgt) {s' : VS} (h : s.ps = s'.ps) (c : Int × Vt) : (retally1 was now s c).ps = (retally1 was now s' c).ps := by
  unfold retally1
  rw [h]
  split
  · split
    · show s.ps.set _ _ = s'.ps.set _ _; rw [h]
    · exact h
  · exact h
theorem retally_ps (was now : Wgt) : ∀ (l : List (Int × Vt)) {s s' : VS}, s.ps = s'.ps → (retally was now s l).ps = (retally was now s' l).ps
  | [], _, _, h => h
  | c :: l, _, _, h => retally_ps was now l (retally1_ps was now h c)
theorem DInv.retally1 (h : DInv s) (was now : Wgt) (c : Int × Vt) : DInv (Go.Al.retally1 was now s c) := by
  unfold Go.Al.retally1
  split
  · rename_i q hq
    split
    · exact h.setP (have h9 := h.trk _ _ hq; h9) (have h9 := h.st _ _ hq; h9)
    · exact h
  · exact h
theorem DInv.retally_ {was now : Wgt} : ∀ (l : List (Int × Vt)) {s : VS}, DInv s → DInv (retally was now s l)
  | [], _, h => h
  | c :: l, _, h => DInv.retally_ l (h.retally1 was now c)
theorem DInv.got_ (h : DInv s) (a t : Int) (wt : Wgt) : DInv (gotS s a t wt) := DInv.retally_ _ (h.setR_ a t (h.inv.dels a t))
theorem got_poll {s9 : VS} (hD : DInv s9) (hc : s9.cs = s.cs) {a t : Int} {i : Nat} {c : Int × Vt} (h : (vrow s a t)[i]? = some c) : ∃ (j : Nat) (v : Vt) (q : PollS), c = ((j : Int), v) ∧ j < 12 ∧ s9.ps[j]? = some (some q) ∧ q.state ≠ 1 := by
  have hm := List.mem_of_getElem? h
  unfold vrow at hm
  obtain ⟨k, hk⟩ := List.getElem?_of_mem (List.mem_filter.1 hm).1
  obtain ⟨x, hx, _, hb, hv⟩ := rowL_mem hk
  obtain ⟨_, h2, _, q, hq⟩ := hD.inv.votes x (by rw [hc]; exact hx)
  obtain ⟨n, v⟩ := c
  simp only at hb hv
  rw [hb] at h2 hq
  obtain ⟨j, rfl⟩ : ∃ j : Nat, n = j := ⟨n.toNat, by omega⟩
  rw [Int.toNat_natCast] at hq
  exact ⟨j, v, q, rfl, by omega, hq, hD.st _ _ hq⟩
theorem got_inv (s : VS) (a t : Int) (wt : Wgt) : (gotS s a t wt).cs = s.cs ∧ (gotS s a t wt).rc = updR s.rc a t { s.rc a t with got := wt } ∧ (∀ r, trk (gotS s a t wt) r = trk s r) ∧ (gotS s a t wt).ps = (retally (s.rc a t).got wt s (vrow s a t)).ps := by
  obtain ⟨h1, h2, h3⟩ := retally_inv (s.rc a t).got wt (vrow s a t) (s.setR a t { s.rc a t with got := wt })
  exact ⟨h1, h2, h3, retally_ps _ _ _ rfl⟩
theorem retally_is {was now : Wgt} {s9 : VS} {j : Nat} {q : PollS} {v : Vt} (h : s9.ps[j]? = some (some q)) : (retally1 was now s9 ((j : Int), v)).ps = if q.state = 0 then s9.ps.set j (some (PollS.mk q.track (addT (subT q.t (gainT v was)) (gainT v now)) q.state q.stop)) else s9.ps := by
  unfold retally1
  simp only [Int.toNat_natCast, h]
  split <;> rfl
set_option maxHeartbeats 1000000 in
theorem dgot_at (F : Nat → Prop) (y : Nat) (s : VS) (bP oP cP bR oR cR : Nat) (rs : List DR) (a t : Nat) (wt : Wgt) (w : World) (hdi : DInv s) (hFlt : ∀ q, F q → q < w.heap.size) (hdv : DvX F w y bP oP cP bR oR cR rs s) (ha : a < 10) (ht : t < 4) : Calls Tryz.prog 109 #[pt y, nt (a : Int), nt (t : Int), .agg wt.cells.toArray] w fun e w' => e = .returned (.tuple #[]) ∧ (∃ rs', DvX F w' y bP oP cP bR oR cR rs' (gotS s (a : Int) (t : Int) wt)) ∧ Keep F w w' := by
 obtain ⟨LP, TP, hP⟩ := hdv.pl
 obtain ⟨LR, TR, hR⟩ := hdv.rl
 have hy := hdv.blk
 obtain ⟨hyP, hyR, hPR⟩ := hdv.ne
 have hylt := hy.lt
 have hbPlt := hP.blk.lt
 have hbRlt := hR.blk.lt
 have hpl : s.ps.length = 12 := hdi.inv.len
 have hrl := hdv.rlen
 have hra := hdv.all
 have hF0 : ∀ q, F q → F q ∨ w.heap.size ≤ q := fun _ h => .inl h
 have hK0 := Keep.refl F w
 refine eV ?_
 refine Vr <| OI_box 54 (.tmp 3) (.agg (Wgt.cells wt).toArray) (Wgt.cells wt) (some 7) (by kernel_rfl) (by kernel_rfl) rfl ?_
 intro b1 w1 e1 hb1 k1 z1
 have hsz2 := Keep.size k1
 replace hy := hy.k0 k1
 replace hP := hP.k0 k1
 replace hR := hR.k0 k1
 replace hra := RAll.keep hra k1 (fun _ _ _ _ _ f => f)
 replace hK0 := hK0.tn k1
 have hb1lt := hb1.lt
 refine Oer <| On 3 [0, 7, 11, 12, 13] <| Ok (kl 103 #[(.tmp 11),(.tmp 12),(.tmp 13)] #[33, 3, 3]) 103 #[pt y, nt (a : Int), nt (t : Int)] (some 14) (dat_spec y bR oR cR a t _ _ hy (by omega) (by omega)) ?_
 rintro _ w1 ⟨rfl, rfl⟩
 refine ⟨_, rfl, ?_⟩
 refine On 5 [0, 7, 8] <| Oe <| V_seq <| Vn [0, 7, 8, 9] <| V_block ?_
 obtain ⟨x8, hx9⟩ := exAt (xs := rs) (i := a * 4 + t)
 obtain ⟨A10, c10, rfl, hsk10, hok10⟩ := RAll.get hra hx9
 rw [vrJ_at s a t (by omega)] at hsk10
 rw [vrJ_at s a t (by omega), rcJ_at s a t (by omega)] at hx9
 have hsw10 : ∀ q, inA A10 q → q ≠ y ∧ q ≠ bP ∧ q ≠ bR ∧ q < w.heap.size := fun q hq => ⟨(hok10 q hq).2.1, (hok10 q hq).2.2.1, (hok10 q hq).2.2.2, hFlt q (hok10 q hq).1⟩
 have hsx10 := SlT.lt hsk10
 have hcp10 := SlT.cap_le hsk10
 refine Vp [(0, pt y),(7, pt b1),(8, .pointer (some ⟨bR, oR + (a * 4 + t) * 9, none⟩)),(9, nt 0)] <| V_loop (fun k wI e => ∃ i : Nat, ∃ LQ : List Value, (k + i = (vrow s (a : Int) (t : Int)).length) ∧ (At wI bP oP LQ TP 7 cP ((retally (s.rc (a : Int) (t : Int)).got wt s ((vrow s (a : Int) (t : Int)).take i)).ps.map dpc)) ∧ Keep (only bP) w1 wI ∧ e = [(0, pt y),(7, pt b1),(8, .pointer (some ⟨bR, oR + (a * 4 + t) * 9, none⟩)),(9, nt (i : Int))]) ((vrow s (a : Int) (t : Int)).length) ⟨0, _, by omega, hP, Keep.refl _ _, rfl⟩ ?_
 rintro k12 w11 _ ⟨i, LQ, hki, hQ, hk13, rfl⟩
 have hsz14 := Keep.size hk13
 replace hy := hy.k1 hk13
 replace hb1 := hb1.k1 hk13
 replace hR := hR.k1 hk13
 replace hsk10 := hsk10.keep hk13 (fun q hq hs => by have hs : q = bP := hs; have g0 := hsw10 q hq; have g1 := hsx10 q hq; omega)
 replace hra := RAll.keep hra hk13 (fun _ _ _ h _ hs => h hs)
 replace hK0 := fro hK0 hk13 hdv.own.2.1
 have hzhk13 := Keep.size hk13
 have hD9 : DInv (retally (s.rc (a : Int) (t : Int)).got wt s ((vrow s (a : Int) (t : Int)).take i)) := DInv.retally_ _ hdi
 have hql : (retally (s.rc (a : Int) (t : Int)).got wt s ((vrow s (a : Int) (t : Int)).take i)).ps.length = 12 := hD9.inv.len
 have hc9 : (retally (s.rc (a : Int) (t : Int)).got wt s ((vrow s (a : Int) (t : Int)).take i)).cs = s.cs := (retally_inv _ _ _ _).1
 have hvl := Nat.le_trans (vrow_len s (a : Int) (t : Int)) hdi.len
 refine V_seq <| Vr <| On 4 [0, 7, 8, 9, 15, 18] <| Lc (oR + (a * 4 + t) * 9) (.slice A10 ((vrow s (a : Int) (t : Int)).length) c10) hR.blk (At.cell0 hR (es_at hx9) rfl) <| Oen [0, 7, 8, 9, 21] <| Vi ((i : Int) < (((vrow s (a : Int) (t : Int)).length : Nat) : Int)) (fun hc15 => ?_) (fun hc15 => ?_)
 ·
  refine Vsk <| V_seq <| V_block <| Vr <| On 4 [0, 7, 8, 9, 24, 27] <| Lc (oR + (a * 4 + t) * 9) (.slice A10 ((vrow s (a : Int) (t : Int)).length) c10) hR.blk (At.cell0 hR (es_at hx9) rfl) <| On 6 [0, 7, 8, 9, 24, 28, 29] ?_
  obtain ⟨b16, o16, L16, T16, rfl, hat16⟩ := SlT.opn hsk10
  have hb16lt := hat16.blk.lt
  have hob17 := hsw10 b16 ⟨_, rfl, rfl⟩
  have hob18 := hsx10 b16 ⟨_, rfl, rfl⟩
  refine Oi (b := b16) (o := o16) (len := (vrow s (a : Int) (t : Int)).length) (cap := c10) (j := i) (some 30) 39 (.tmp 28) (.tmp 29) 46 7 56 .i64 <| On 8 [0, 7, 8, 9, 24, 31] ?_
  obtain ⟨x19, hx20⟩ := exAt (xs := (vrow s (a : Int) (t : Int))) (i := i)
  obtain ⟨j21, v21, ⟨tk21, tl21, sta21, stp21⟩, rfl, hjl21, hq21, hst21⟩ := got_poll hD9 hc9 hx20
  replace hst21 : sta21 ≠ 1 := hst21
  refine Lc (o16 + i * 7) (nt (j21 : Int)) hat16.blk (At.cell0 hat16 (es_at hx20) rfl) <| Ok (kl 101 #[(.tmp 24),(.tmp 32)] #[33, 3]) 101 #[pt y, nt (j21 : Int)] (some 33) (dopen_spec y bP oP cP _ TP (retally (s.rc (a : Int) (t : Int)).got wt s ((vrow s (a : Int) (t : Int)).take i)) j21 _ _ _ hy hQ hq21 hst21 hql) ?_
  rintro _ w22 ⟨rfl, hk23⟩
  refine ⟨_, rfl, ?_⟩
  have hsz24 := Keep.size hk23
  replace hy := hy.k0 hk23
  replace hb1 := hb1.k0 hk23
  replace hR := hR.k0 hk23
  replace hQ := hQ.k0 hk23
  replace hat16 := hat16.keep hk23 id
  replace hk13 := hk13.tn hk23
  refine Oe <| Vb (decide (sta21 = 0)) (fun hc25 => ?_) (fun hc25 => ?_)
  ·
   refine V_seq <| Vd1 (acts []) none_ [0, 1, 2, 3, 4, 5, 6, 7, 8, 9, 10, 11, 12, 13] fun w27 hk26 he28 K31 _ => ?_
   replace hy := hy.k0 hk26
   replace hb1 := hb1.k0 hk26
   replace hR := hR.k0 hk26
   replace hQ := hQ.k0 hk26
   replace hat16 := hat16.keep hk26 id
   replace hk13 := hk13.tn hk26
   have qhy := hy
   have qhb1 := hb1
   have qhR := hR
   have qhQ := hQ
   have qhat16 := hat16
   refine Gn [3, 4, 5, 6, 7, 8, 9, 10, 11, 12, 13] [0, 7, 8, 9, 36] <| Mr 0 (sl_ bP oP 12 cP) qhy <| Gn [7, 8, 9, 10, 11, 12, 13] [0, 7, 8, 9, 37, 40] <| Mc0 (oR + (a * 4 + t) * 9) (sl_ b16 o16 ((vrow s (a : Int) (t : Int)).length) c10) qhR.blk (At.cell0 qhR (es_at hx9) rfl) <| Gn [9, 10, 11, 12, 13] [0, 7, 8, 9, 37, 41, 42] <| Gi (b := b16) (o := o16) (len := (vrow s (a : Int) (t : Int)).length) (cap := c10) (j := i) 46 7 56 .i64 <| Gn [11, 12, 13] [0, 7, 8, 9, 37, 44] <| Mc0 (o16 + i * 7) (nt (j21 : Int)) qhat16.blk (At.cell0 qhat16 (es_at hx20) rfl) <| Gi (b := bP) (o := oP) (len := 12) (cap := cP) (j := j21) 73 7 56 .i64 <| Gn [] [0, 7, 8, 9, 10] <| GI_end <| X_then <| Vd1 (acts [17, 18, 28, 29, 32]) none_ [5, 6, 7, 8, 9, 10, 11, 12, 13, 14, 15, 16, 17, 1, 2, 3, 4, 18, 19, 20, 21, 22, 23, 24, 25, 26, 27, 28, 29, 0, 30, 31, 32] fun w33 hk32 he34 K37 _ => ?_
   replace hb1 := hb1.k0 hk32
   replace hR := hR.k0 hk32
   replace hQ := hQ.k0 hk32
   replace hat16 := hat16.keep hk32 id
   replace hk13 := hk13.tn hk32
   have qhb1 := hb1
   have qhR := hR
   have qhQ := hQ
   have qhat16 := hat16
   refine Gn [8, 9, 10, 11, 12, 13, 14, 15, 16, 17, 1, 2, 3, 4, 18, 19, 20, 21, 22, 23, 24, 25, 26, 27, 28, 29, 0, 30, 31, 32] [0, 7, 8, 9, 10, 54] <| Mc0 (oR + (a * 4 + t) * 9) (sl_ b16 o16 ((vrow s (a : Int) (t : Int)).length) c10) qhR.blk (At.cell0 qhR (es_at hx9) rfl) <| Gn [10, 11, 12, 13, 14, 15, 16, 17, 1, 2, 3, 4, 18, 19, 20, 21, 22, 23, 24, 25, 26, 27, 28, 29, 0, 30, 31, 32] [0, 7, 8, 9, 10, 55, 56] <| Gi (b := b16) (o := o16) (len := (vrow s (a : Int) (t : Int)).length) (cap := c10) (j := i) 46 7 56 .i64 <| Gn [12, 13, 14, 15, 16, 17, 1, 2, 3, 4, 18, 19, 20, 21, 22, 23, 24, 25, 26, 27, 28, 29, 0, 30, 31, 32] [0, 7, 8, 9, 10, 58] <| Ma (o16 + i * 7 + 1) (Vt.cells v21) 6 qhat16.blk id (At.sub qhat16 (es_at hx20) (by decide) rfl) (Vt.len _) <| Gn [16, 17, 1, 2, 3, 4, 18, 19, 20, 21, 22, 23, 24, 25, 26, 27, 28, 29, 0, 30, 31, 32] [0, 7, 8, 9, 10, 59, 62] <| Ma (oR + (a * 4 + t) * 9 + 5) (Wgt.cells ((s.rc (a : Int) (t : Int)).got)) 2 qhR.blk id (At.sub qhR (es_at hx9) (by decide) rfl) (Wgt.len _) <| Hg (rGain_spec v21 ((s.rc (a : Int) (t : Int)).got) _) ?_
   rintro _ w40 ⟨rfl, hk41⟩
   have K42 := K37.tr (Keep.ofNone hk41)
   refine ⟨_, rfl, K42, ?_⟩
   have hzK42 := Keep.size K42
   have hsz43 := Keep.size hk41
   replace hk13 := hk13.tn hk41
   refine Gn [4, 18, 19, 20, 21, 22, 23, 24, 25, 26, 27, 28, 29, 0, 30, 31, 32] [0, 7, 8, 9, 10, 50, 64] <| Ma (oP + j21 * 7 + 4) (Tly.cells tl21) 3 qhQ.blk id (At.sub qhQ (es_at hq21) (by decide) rfl) (Tly.len _) <| Hg (rSub_spec tl21 (gainT v21 ((s.rc (a : Int) (t : Int)).got)) _) ?_
   rintro _ w46 ⟨rfl, hk47⟩
   have K48 := K42.tr (Keep.ofNone hk47)
   refine ⟨_, rfl, K48, ?_⟩
   have hzK48 := Keep.size K48
   have hsz49 := Keep.size hk47
   replace hk13 := hk13.tn hk47
   refine Gn [22, 23, 24, 25, 26, 27, 28, 29, 0, 30, 31, 32] [0, 7, 8, 9, 10, 65, 68] <| Mc0 (oR + (a * 4 + t) * 9) (sl_ b16 o16 ((vrow s (a : Int) (t : Int)).length) c10) qhR.blk (At.cell0 qhR (es_at hx9) rfl) <| Gn [24, 25, 26, 27, 28, 29, 0, 30, 31, 32] [0, 7, 8, 9, 10, 65, 69, 70] <| Gi (b := b16) (o := o16) (len := (vrow s (a : Int) (t : Int)).length) (cap := c10) (j := i) 46 7 56 .i64 <| Gn [26, 27, 28, 29, 0, 30, 31, 32] [0, 7, 8, 9, 10, 65, 72] <| Ma (o16 + i * 7 + 1) (Vt.cells v21) 6 qhat16.blk id (At.sub qhat16 (es_at hx20) (by decide) rfl) (Vt.len _) <| Ma 0 (Wgt.cells wt) 2 qhb1 id (take_all (Wgt.len _)) (Wgt.len _) <| Hg (rGain_spec v21 wt _) ?_
   rintro _ w52 ⟨rfl, hk53⟩
   have K54 := K48.tr (Keep.ofNone hk53)
   refine ⟨_, rfl, K54, ?_⟩
   have hzK54 := Keep.size K54
   have hsz55 := Keep.size hk53
   replace hk13 := hk13.tn hk53
   refine Hg (rAdd_spec (subT tl21 (gainT v21 ((s.rc (a : Int) (t : Int)).got))) (gainT v21 wt) _) ?_
   rintro _ w58 ⟨rfl, hk59⟩
   have K60 := K54.tr (Keep.ofNone hk59)
   refine ⟨_, rfl, K60, ?_⟩
   have hzK60 := Keep.size K60
   have hsz61 := Keep.size hk59
   replace hQ := hQ.k0 (((hk41.tr hk47).tr hk53).tr hk59)
   replace hk13 := hk13.tn hk59
   refine Gn [32] [0, 7, 8, 9, 76, 78] <| GI_final 32 (by kernel_rfl) (by kernel_rfl) <| TsN (m := 3) (some (PollS.mk tk21 (addT (subT tl21 (gainT v21 ((s.rc (a : Int) (t : Int)).got))) (gainT v21 wt)) sta21 stp21) : (Option PollS)) 4 (Tly.cells (addT (subT tl21 (gainT v21 ((s.rc (a : Int) (t : Int)).got))) (gainT v21 wt))) hQ hq21 rfl (Tly.len _) (Tly.one _) ?_
   intro w62 hat66 hk64 hz65 hlhx67 hx67
   have hsz68 := Keep.size hk64
   replace hk13 := Keep.fresh hk13 hk64 (by intro i hi hs; have hs2 : i = bP := hs; first | exact hs | (exfalso; omega) | (rw [hs2]; first | exact hdv.own.1 | exact hdv.own.2.1 | exact hdv.own.2.2))
   refine OI_end rfl <| X_block <| X_then <| V_region ?_
   have hw69 : i64.wrap ((i : Int) + 1) = ((i + 1 : Nat) : Int) := wrp
   refine On 2 [0, 7, 8, 23] <| Oq (u := nt (i64.wrap ((i : Int) + 1))) (v := nt ((i + 1 : Nat) : Int)) 23 (by rw [hw69]) <| Os 3 [(0, pt y),(7, pt b1),(8, .pointer (some ⟨bR, oR + (a * 4 + t) * 9, none⟩)),(9, nt ((i + 1 : Nat) : Int))] <| OI_end rfl ?_
   exact V_again (k12 - 1) (by omega) [(0, pt y),(7, pt b1),(8, .pointer (some ⟨bR, oR + (a * 4 + t) * 9, none⟩)),(9, nt ((i + 1 : Nat) : Int))] rfl ⟨i + 1, _, by omega, by have h9 := hat66; rw [retally_step hx20, retally_is hq21]; rw [if_pos (by simpa using hc25)]; exact h9, hk13, rfl⟩
  refine V_skip <| X_block <| X_then <| V_region ?_
  have hw70 : i64.wrap ((i : Int) + 1) = ((i + 1 : Nat) : Int) := wrp
  refine On 2 [0, 7, 8, 23] <| Oq (u := nt (i64.wrap ((i : Int) + 1))) (v := nt ((i + 1 : Nat) : Int)) 23 (by rw [hw70]) <| Os 3 [(0, pt y),(7, pt b1),(8, .pointer (some ⟨bR, oR + (a * 4 + t) * 9, none⟩)),(9, nt ((i + 1 : Nat) : Int))] <| OI_end rfl ?_
  exact V_again (k12 - 1) (by omega) [(0, pt y),(7, pt b1),(8, .pointer (some ⟨bR, oR + (a * 4 + t) * 9, none⟩)),(9, nt ((i + 1 : Nat) : Int))] rfl ⟨i + 1, _, by omega, by have h9 := hQ; rw [retally_step hx20, retally_is hq21]; rw [if_neg (by simpa using hc25)]; exact h9, hk13, rfl⟩
 refine V_exit <| X_exit_then <| X_exit_then <| X_exit_here <| X_then <| V_region <| On 1 [7, 79] <| La 0 (Wgt.cells wt) 2 hb1 (take_all (Wgt.len _)) (Wgt.len _) <| Os 4 [(80, .agg (Wgt.cells wt).toArray),(82, .pointer (some ⟨bR, oR + (a * 4 + t) * 9 + 5, none⟩))] <| TsN (m := 2) (DR.mk A10 c10 (vrow s (a : Int) (t : Int)) ((s.rc (a : Int) (t : Int)).d.isSome) (dTo (s.rc (a : Int) (t : Int))) (dLv (s.rc (a : Int) (t : Int))) (dN (s.rc (a : Int) (t : Int))) wt.v wt.c ((s.rc (a : Int) (t : Int)).till) ((s.rc (a : Int) (t : Int)).n) : DR) 5 (Wgt.cells wt) hR hx9 rfl (Wgt.len _) (Wgt.one _) ?_
 intro w71 hat75 hk73 hz74 hlhx76 hx76
 have hsz77 := Keep.size hk73
 replace hy := hy.k1 hk73
 replace hQ := hQ.k1 hk73
 replace hsk10 := hsk10.keep hk73 (fun q hq hs => by have hs : q = bR := hs; have g0 := hsw10 q hq; have g1 := hsx10 q hq; omega)
 replace hra := RAll.keep hra hk73 (fun _ _ _ _ h hs => h hs)
 replace hK0 := fro hK0 hk73 hdv.own.2.2
 refine OI_end rfl ?_
 have hie : i = (vrow s (a : Int) (t : Int)).length := by omega
 obtain ⟨hg1, hg2, hg3, hg4⟩ := got_inv s (a : Int) (t : Int) wt
 have hvr : ∀ b c, vrow (gotS s (a : Int) (t : Int) wt) b c = vrow s b c := fun b c => vrow_congr hg1 hg3 b c
 have hra9 := RAll.set (F' := F) (j := a * 4 + t) (s' := gotS s (a : Int) (t : Int) wt) hra (fun q h => h) A10 c10 (by rw [vrJ_at _ _ _ ht, hvr]; exact hsk10) hok10 (fun i hi _ => ⟨hvr _ _, by show (gotS _ _ _ _).rc _ _ = _; rw [hg2]; unfold updR; rw [if_neg (fun h => rc_other hi ⟨h.1, h.2.symm⟩)]; rfl⟩) (e := (DR.mk A10 c10 (vrow s (a : Int) (t : Int)) ((s.rc (a : Int) (t : Int)).d.isSome) (dTo (s.rc (a : Int) (t : Int))) (dLv (s.rc (a : Int) (t : Int))) (dN (s.rc (a : Int) (t : Int))) wt.v wt.c ((s.rc (a : Int) (t : Int)).till) ((s.rc (a : Int) (t : Int)).n))) (by rw [vrJ_at _ _ _ ht, rcJ_at _ _ _ ht, hvr, hg2]; unfold updR; rw [if_pos ⟨rfl, rfl⟩]; rfl)
 exact X_end _ rfl ⟨rfl, ⟨_, hy, ⟨_, _, by rw [hg4]; have h9 := hQ; rw [hie, List.take_length] at h9; exact h9⟩, ⟨_, _, hat75⟩, hdv.ne, hdv.own, by rw [List.length_set]; exact hdv.rlen, hra9⟩, hK0⟩
end Go.Al
namespace Go.Al
open Go Go.RowKit Go.Proofs
theorem set_self_ {α : Type} {xs : List α} {i : Nat} {x : α} (h : xs[i]? = some x) : xs.set i x = xs := by
  obtain ⟨h1, rfl⟩ := List.getElem?_eq_some_iff.1 h
  exact List.set_getElem_self h1
set_option maxHeartbeats 1000000 in
theorem dvote_spec (F G : Nat → Prop) (y l : Nat) (s : VS) (xs : List Acc) (cs : List Ci) (who ref : Int) (x : Vt) (w : World) (h : DVt F w y s) (hl : DLd G w l xs cs) (hdis : ∀ q, F q → ¬ G q) (hmax : cs.length < 90000) : Calls Tryz.prog 74 #[pt y, pt l, nt who, nt ref, .agg x.cells.toArray] w fun e w' => e = .returned (nt (voteE xs s who ref x)) ∧ (∃ F' G', DVt F' w' y (voteS xs s who ref x) ∧ DLd G' w' l xs (voteC xs cs s who ref x) ∧ (∀ q, F' q → F q ∨ w.heap.size ≤ q) ∧ (∀ q, G' q → G q ∨ w.heap.size ≤ q) ∧ (∀ q, F' q → ¬ G' q)) ∧ Keep (fun q => F q ∨ G q) w w' := by
 obtain ⟨hdi, hFlt, bP, oP, cP, bR, oR, cR, rs, hdv⟩ := h
 obtain ⟨LP, TP, hP⟩ := hdv.pl
 obtain ⟨LR, TR, hR⟩ := hdv.rl
 have hy := hdv.blk
 obtain ⟨hyP, hyR, hPR⟩ := hdv.ne
 have hylt := hy.lt
 have hbPlt := hP.blk.lt
 have hbRlt := hR.blk.lt
 have hpl : s.ps.length = 12 := hdi.inv.len
 have hrl := hdv.rlen
 have hra := hdv.all
 have hF0 : ∀ q, F q → F q ∨ w.heap.size ≤ q := fun _ h => .inl h
 have hGlt := DLd.lt hl
 have hllt := hGlt _ (DLd.at_ hl)
 have hGo : ∀ q, G q → q ≠ y ∧ q ≠ bP ∧ q ≠ bR := fun q hq => ⟨fun e => hdis q (e ▸ hdv.own.1) hq, fun e => hdis q (e ▸ hdv.own.2.1) hq, fun e => hdis q (e ▸ hdv.own.2.2) hq⟩
 have hGr : ∀ q, G q → G q ∨ w.heap.size ≤ q := fun _ h => .inl h
 have hK0 : Keep (fun q => F q ∨ G q) w w := Keep.refl _ _
 refine eV ?_
 refine Vr <| OI_box 23 (.tmp 4) (.agg (Vt.cells x).toArray) (Vt.cells x) (some 9) (by kernel_rfl) (by kernel_rfl) rfl ?_
 intro b1 w1 e1 hb1 k1 z1
 have hsz2 := Keep.size k1
 replace hy := hy.k0 k1
 replace hP := hP.k0 k1
 replace hR := hR.k0 k1
 replace hra := RAll.keep hra k1 (fun _ _ _ _ _ f => f)
 replace hl := DLd.keep hl k1 nk
 replace hK0 := hK0.tn k1
 have hb1lt := hb1.lt
 refine On 2 [0, 1, 2, 3, 9] <| Oe <| V_seq <| V_block <| Vr <| On 1 [0, 1, 2, 3, 9, 17] <| Kq (is6_spec who _) <| Os 4 [(0, pt y),(1, pt l),(2, nt who),(3, nt ref),(9, pt b1),(20, .bool (!(isA who)))] ?_
 cases hg6 : (!(isA who))
 ·
  obtain ⟨a7, rfl, hal7⟩ : ∃ j : Nat, who = j ∧ j < 10 := by have h9 : isA who = true := (by simpa using hg6); simp only [isA, decide_eq_true_eq] at h9; exact ⟨who.toNat, by omega, by omega⟩
  refine OI_eq [(0, pt y),(1, pt l),(2, nt (a7 : Int)),(3, nt ref),(9, pt b1),(20, .bool false)] (by first | rfl | rw [hg6]) <| La 0 (Vt.cells x) 6 hb1 (take_all (Vt.len _)) (Vt.len _) <| Kk (rIs_spec x _) fun w8 hk9 _ => ?_
  replace hy := hy.k0 hk9
  replace hb1 := hb1.k0 hk9
  replace hP := hP.k0 hk9
  replace hR := hR.k0 hk9
  replace hra := RAll.keep hra hk9 (fun _ _ _ _ _ f => f)
  replace hl := DLd.keep hl hk9 nk
  replace hK0 := hK0.tn hk9
  refine Oen [0, 1, 2, 3, 9, 16] <| Vb (!(decide (okV x))) (fun hc11 => ?_) (fun hc11 => ?_)
  ·
   have hok : ¬ okV x := by simpa using hc11
   refine Vs [(10, nt 1)] <| V_ret <| X_ret_block <| X_ret_then ?_
   have hE : voteE xs s (a7 : Int) ref x = 1 := by unfold voteE; rw [if_pos (.inr hok)]
   exact X_return _ rfl ⟨by rw [hE], ⟨F, G, by rw [show voteS xs s (a7 : Int) ref x = s from by unfold voteS; rw [hE]; rfl]; exact ⟨hdi, (ltm hFlt), _, _, _, _, _, _, _, ⟨hy, ⟨_, _, hP⟩, ⟨_, _, hR⟩, hdv.ne, hdv.own, hdv.rlen, hra⟩⟩, by rw [show voteC xs cs s (a7 : Int) ref x = cs from by unfold voteC; rw [hE]; rfl]; exact hl, hF0, hGr, hdis⟩, hK0⟩
  have hok :  okV x := by simpa using hc11
  refine Vr <| On 2 [0, 1, 2, 3, 9, 26, 27] <| Kk (dhas_spec F y s ref _ ⟨hdi, (ltm hFlt), _, _, _, _, _, _, _, ⟨hy, ⟨_, _, hP⟩, ⟨_, _, hR⟩, hdv.ne, hdv.own, hdv.rlen, hra⟩⟩) fun w12 hk13 _ => ?_
  replace hy := hy.k0 hk13
  replace hb1 := hb1.k0 hk13
  replace hP := hP.k0 hk13
  replace hR := hR.k0 hk13
  replace hra := RAll.keep hra hk13 (fun _ _ _ _ _ f => f)
  replace hl := DLd.keep hl hk13 nk
  replace hK0 := hK0.tn hk13
  refine Oen [0, 1, 2, 3, 9, 25] <| Vb (!((pollAt s ref).isSome)) (fun hc15 => ?_) (fun hc15 => ?_)
  ·
   have hno : pollAt s ref = none := by simpa using hc15
   refine Vs [(10, nt 4)] <| V_ret <| X_ret_block <| X_ret_then ?_
   have hE : voteE xs s (a7 : Int) ref x = 4 := by unfold voteE; rw [if_neg (by rintro (h | h); exact h ⟨by omega, by omega⟩; exact h hok)]; rw [hno]
   exact X_return _ rfl ⟨by rw [hE], ⟨F, G, by rw [show voteS xs s (a7 : Int) ref x = s from by unfold voteS; rw [hE]; rfl]; exact ⟨hdi, (ltm hFlt), _, _, _, _, _, _, _, ⟨hy, ⟨_, _, hP⟩, ⟨_, _, hR⟩, hdv.ne, hdv.own, hdv.rlen, hra⟩⟩, by rw [show voteC xs cs s (a7 : Int) ref x = cs from by unfold voteC; rw [hE]; rfl]; exact hl, hF0, hGr, hdis⟩, hK0⟩
  obtain ⟨⟨tk16, tl16, sta16, stp16⟩, hq16⟩ := Option.isSome_iff_exists.1 (show (pollAt s ref).isSome = true by simpa using hc15)
  obtain ⟨i16, rfl, hil16, hqi16⟩ := pollAt_some hq16
  obtain ⟨t16, rfl, htl16⟩ : ∃ t : Nat, tk16 = t ∧ t < 4 := by have h9 := hdi.trk _ _ hqi16; exact ⟨tk16.toNat, by simp only at h9; omega, by simp only at h9; omega⟩
  have hst16 : sta16 ≠ 1 := hdi.st _ _ hqi16
  refine Vr <| On 2 [0, 1, 2, 3, 9, 31, 32] <| Ok (kl 101 #[(.tmp 31),(.tmp 32)] #[33, 3]) 101 #[pt y, nt (i16 : Int)] (some 33) (dopen_spec y bP oP cP LP TP s i16 _ _ _ hy hP hqi16 hst16 hpl) ?_
  rintro _ w17 ⟨rfl, hk18⟩
  refine ⟨_, rfl, ?_⟩
  have hsz19 := Keep.size hk18
  replace hy := hy.k0 hk18
  replace hb1 := hb1.k0 hk18
  replace hP := hP.k0 hk18
  replace hR := hR.k0 hk18
  replace hra := RAll.keep hra hk18 (fun _ _ _ _ _ f => f)
  replace hl := DLd.keep hl hk18 nk
  replace hK0 := hK0.tn hk18
  refine Oen [0, 1, 2, 3, 9, 30] <| Vb (!(decide (sta16 = 0))) (fun hc20 => ?_) (fun hc20 => ?_)
  ·
   refine Vs [(10, nt 9)] <| V_ret <| X_ret_block <| X_ret_then ?_
   have hE : voteE xs s (a7 : Int) (i16 : Int) x = 9 := by unfold voteE; rw [if_neg (by rintro (h | h); exact h ⟨by omega, by omega⟩; exact h hok)]; rw [hq16]; dsimp only; rw [if_pos (by simpa using hc20)]
   exact X_return _ rfl ⟨by rw [hE], ⟨F, G, by rw [show voteS xs s (a7 : Int) (i16 : Int) x = s from by unfold voteS; rw [hE]; rfl]; exact ⟨hdi, (ltm hFlt), _, _, _, _, _, _, _, ⟨hy, ⟨_, _, hP⟩, ⟨_, _, hR⟩, hdv.ne, hdv.own, hdv.rlen, hra⟩⟩, by rw [show voteC xs cs s (a7 : Int) (i16 : Int) x = cs from by unfold voteC; rw [hE]; rfl]; exact hl, hF0, hGr, hdis⟩, hK0⟩
  refine V_skip <| X_block <| X_then <| Vr <| On 3 [0, 1, 2, 3, 9, 37] <| Lr 0 (sl_ bP oP 12 cP) hy <| On 5 [0, 1, 2, 3, 9, 38, 39] <| Oi (b := bP) (o := oP) (len := 12) (cap := cP) (j := i16) (some 40) 74 (.tmp 38) (.tmp 39) 73 7 56 .i64 <| On 7 [0, 1, 2, 3, 9, 11] <| Oer <| On 5 [1, 2, 3, 9, 11, 41, 42, 45] <| Lc (oP + i16 * 7 + 1) (nt (t16 : Int)) hP.blk (At.cell hP (es_at hqi16) rfl) <| Ok (kl 103 #[(.tmp 41),(.tmp 42),(.tmp 46)] #[33, 3, 3]) 103 #[pt y, nt (a7 : Int), nt (t16 : Int)] (some 47) (dat_spec y bR oR cR a7 t16 _ _ hy (by omega) (by omega)) ?_
  rintro _ w17 ⟨rfl, rfl⟩
  refine ⟨_, rfl, ?_⟩
  refine On 8 [1, 2, 3, 9, 11, 12] <| Oer <| On 2 [1, 2, 3, 9, 11, 12, 49, 50] ?_
  obtain ⟨x26, hx27⟩ := exAt (xs := rs) (i := a7 * 4 + t16)
  obtain ⟨A28, c28, rfl, hsk28, hok28⟩ := RAll.get hra hx27
  rw [vrJ_at s a7 t16 (by omega)] at hsk28
  rw [vrJ_at s a7 t16 (by omega), rcJ_at s a7 t16 (by omega)] at hx27
  have hsw28 : ∀ q, inA A28 q → q ≠ y ∧ q ≠ bP ∧ q ≠ bR ∧ q < w.heap.size := fun q hq => ⟨(hok28 q hq).2.1, (hok28 q hq).2.2.1, (hok28 q hq).2.2.2, hFlt q (hok28 q hq).1⟩
  have hsx28 := SlT.lt hsk28
  have hcp28 := SlT.cap_le hsk28
  refine Kk (dplace_spec bR oR cR (a7 * 4 + t16) LR TR rs A28 c28 (vrow s (a7 : Int) (t16 : Int)) (s.rc (a7 : Int) (t16 : Int)) (i16 : Int) _ hR hx27 hsk28 (Nat.le_trans (vrow_len _ _ _) (Nat.le_trans hdi.len (by decide)))) fun w24 hk25 _ => ?_
  replace hy := hy.k0 hk25
  replace hb1 := hb1.k0 hk25
  replace hP := hP.k0 hk25
  replace hR := hR.k0 hk25
  replace hsk28 := hsk28.keep0 hk25
  replace hra := RAll.keep hra hk25 (fun _ _ _ _ _ f => f)
  replace hl := DLd.keep hl hk25 nk
  replace hK0 := hK0.tn hk25
  have hplc := GV.plc_le (i16 : Int) (vrow s (a7 : Int) (t16 : Int))
  have hvl : (vrow s (a7 : Int) (t16 : Int)).length ≤ 120 := Nat.le_trans (vrow_len _ _ _) hdi.len
  refine Ose [(1, pt l),(2, nt (a7 : Int)),(3, nt (i16 : Int)),(9, pt b1),(11, .pointer (some ⟨bP, oP + i16 * 7, none⟩)),(12, .pointer (some ⟨bR, oR + (a7 * 4 + t16) * 9, none⟩)),(13, nt ((GV.plc (i16 : Int) (vrow s (a7 : Int) (t16 : Int)) : Nat) : Int)),(14, .bool (GV.isP (i16 : Int) (vrow s (a7 : Int) (t16 : Int))))] <| V_seq <| V_blockJ (fun wI e => (voteE xs s (a7 : Int) (i16 : Int) x = 0) ∧ Keep none_ w24 wI ∧ e = [(1, pt l),(2, nt (a7 : Int)),(3, nt (i16 : Int)),(9, pt b1),(11, .pointer (some ⟨bP, oP + i16 * 7, none⟩)),(12, .pointer (some ⟨bR, oR + (a7 * 4 + t16) * 9, none⟩)),(13, nt ((GV.plc (i16 : Int) (vrow s (a7 : Int) (t16 : Int)) : Nat) : Int)),(14, .bool (GV.isP (i16 : Int) (vrow s (a7 : Int) (t16 : Int))))]) ?_ ?_
  ·
   have hk30 : Keep none_ w24 w24 := Keep.refl _ _
   refine Vr <| On 3 [1, 2, 3, 9, 11, 12, 13, 14, 57] <| Lc (oR + (a7 * 4 + t16) * 9 + 1) (.bool ((s.rc (a7 : Int) (t16 : Int)).d.isSome)) hR.blk (At.cell hR (es_at hx27) rfl) <| Oen [1, 2, 3, 9, 11, 12, 13, 14, 54] <| Vb ((s.rc (a7 : Int) (t16 : Int)).d.isSome) (fun hc31 => ?_) (fun hc31 => ?_)
   ·
    refine Vs [(10, nt 5)] <| V_ret <| X_ret_block <| X_ret_join <| X_ret_then ?_
    have hE : voteE xs s (a7 : Int) (i16 : Int) x = 5 := by unfold voteE; rw [if_neg (by rintro (h | h); exact h ⟨by omega, by omega⟩; exact h hok)]; rw [hq16]; dsimp only; rw [if_neg (fun h => h (by simpa using hc20))]; rw [if_pos (by simpa using hc31)]
    exact X_return _ rfl ⟨by rw [hE], ⟨F, G, by rw [show voteS xs s (a7 : Int) (i16 : Int) x = s from by unfold voteS; rw [hE]; rfl]; exact ⟨hdi, (ltm hFlt), _, _, _, _, _, _, _, ⟨hy, ⟨_, _, hP⟩, ⟨_, _, hR⟩, hdv.ne, hdv.own, hdv.rlen, hra⟩⟩, by rw [show voteC xs cs s (a7 : Int) (i16 : Int) x = cs from by unfold voteC; rw [hE]; rfl]; exact hl, hF0, hGr, hdis⟩, hK0⟩
   refine Vr <| La 0 (Vt.cells x) 6 hb1 (take_all (Vt.len _)) (Vt.len _) <| Kk (rCapital_spec x _) fun w32 hk33 _ => ?_
   replace hra := RAll.keep hra hk33 (fun _ _ _ _ _ f => f)
   replace hl := DLd.keep hl hk33 nk
   replace hK0 := hK0.tn hk33
   replace hk30 := hk30.tn hk33
   refine On 4 [1, 2, 3, 9, 11, 12, 13, 14, 61, 62, 63] <| Kk (free6_spec G l xs cs (a7 : Int) _ hl) fun w35 hk36 _ => ?_
   replace hy := hy.k0 (hk33.tr hk36)
   replace hP := hP.k0 (hk33.tr hk36)
   replace hR := hR.k0 (hk33.tr hk36)
   replace hra := RAll.keep hra hk36 (fun _ _ _ _ _ f => f)
   replace hl := DLd.keep hl hk36 nk
   replace hK0 := hK0.tn hk36
   replace hk30 := hk30.tn hk36
   refine Oen [1, 2, 3, 9, 11, 12, 13, 14, 59] <| Vi (capI x > (acct xs (a7 : Int)).free) (fun hc38 => ?_) (fun hc38 => ?_)
   ·
    refine Vs [(10, nt 6)] <| V_ret <| X_ret_block <| X_ret_join <| X_ret_then ?_
    have hE : voteE xs s (a7 : Int) (i16 : Int) x = 6 := by unfold voteE; rw [if_neg (by rintro (h | h); exact h ⟨by omega, by omega⟩; exact h hok)]; rw [hq16]; dsimp only; rw [if_neg (fun h => h (by simpa using hc20))]; rw [if_neg (by simpa using hc31)]; rw [if_pos hc38]
    exact X_return _ rfl ⟨by rw [hE], ⟨F, G, by rw [show voteS xs s (a7 : Int) (i16 : Int) x = s from by unfold voteS; rw [hE]; rfl]; exact ⟨hdi, (ltm hFlt), _, _, _, _, _, _, _, ⟨hy, ⟨_, _, hP⟩, ⟨_, _, hR⟩, hdv.ne, hdv.own, hdv.rlen, hra⟩⟩, by rw [show voteC xs cs s (a7 : Int) (i16 : Int) x = cs from by unfold voteC; rw [hE]; rfl]; exact hl, hF0, hGr, hdis⟩, hK0⟩
   refine Vr <| Os 3 [(1, pt l),(2, nt (a7 : Int)),(3, nt (i16 : Int)),(9, pt b1),(11, .pointer (some ⟨bP, oP + i16 * 7, none⟩)),(12, .pointer (some ⟨bR, oR + (a7 * 4 + t16) * 9, none⟩)),(13, nt ((GV.plc (i16 : Int) (vrow s (a7 : Int) (t16 : Int)) : Nat) : Int)),(14, .bool (GV.isP (i16 : Int) (vrow s (a7 : Int) (t16 : Int)))),(69, .bool (!(GV.isP (i16 : Int) (vrow s (a7 : Int) (t16 : Int)))))] ?_
   cases hg39 : (!(GV.isP (i16 : Int) (vrow s (a7 : Int) (t16 : Int))))
   ·
    have hp : GV.isP (i16 : Int) (vrow s (a7 : Int) (t16 : Int)) = true := by simpa using hg39
    obtain ⟨hv1, hv2⟩ : GV.isP (i16 : Int) (vrow s (a7 : Int) (t16 : Int)) = (GV.getC (a7 : Int) (i16 : Int) s.cs).isSome ∧ (∀ v, GV.getC (a7 : Int) (i16 : Int) s.cs = some v → (vrow s (a7 : Int) (t16 : Int))[GV.plc (i16 : Int) (vrow s (a7 : Int) (t16 : Int))]? = some ((i16 : Int), v)) := vrow_get hdi.srt hq16 (a7 : Int)
    have hpl9 := GV.isP_lt hp
    obtain ⟨v9, hv9⟩ := Option.isSome_iff_exists.1 (hv1.symm.trans hp)
    refine OI_eq [(1, pt l),(2, nt (a7 : Int)),(3, nt (i16 : Int)),(9, pt b1),(11, .pointer (some ⟨bP, oP + i16 * 7, none⟩)),(12, .pointer (some ⟨bR, oR + (a7 * 4 + t16) * 9, none⟩)),(13, nt ((GV.plc (i16 : Int) (vrow s (a7 : Int) (t16 : Int)) : Nat) : Int)),(14, .bool (GV.isP (i16 : Int) (vrow s (a7 : Int) (t16 : Int)))),(69, .bool false)] (by first | rfl | rw [hg39]) <| Ose [(1, pt l),(2, nt (a7 : Int)),(3, nt (i16 : Int)),(9, pt b1),(11, .pointer (some ⟨bP, oP + i16 * 7, none⟩)),(12, .pointer (some ⟨bR, oR + (a7 * 4 + t16) * 9, none⟩)),(13, nt ((GV.plc (i16 : Int) (vrow s (a7 : Int) (t16 : Int)) : Nat) : Int)),(14, .bool (GV.isP (i16 : Int) (vrow s (a7 : Int) (t16 : Int)))),(66, .bool false)] <| Vf <| V_skip <| X_block ?_
    exact X_join [(1, pt l),(2, nt (a7 : Int)),(3, nt (i16 : Int)),(9, pt b1),(11, .pointer (some ⟨bP, oP + i16 * 7, none⟩)),(12, .pointer (some ⟨bR, oR + (a7 * 4 + t16) * 9, none⟩)),(13, nt ((GV.plc (i16 : Int) (vrow s (a7 : Int) (t16 : Int)) : Nat) : Int)),(14, .bool (GV.isP (i16 : Int) (vrow s (a7 : Int) (t16 : Int))))] rfl ⟨(by unfold voteE; rw [if_neg (by rintro (h | h); exact h ⟨by omega, by omega⟩; exact h hok)]; rw [hq16]; dsimp only; rw [if_neg (fun h => h (by simpa using hc20))]; rw [if_neg (by simpa using hc31)]; rw [if_neg hc38]; rw [if_neg (by rintro ⟨h1, _⟩; rw [← hv1, hp] at h1; cases h1)]), hk30, rfl⟩
   have hp : GV.isP (i16 : Int) (vrow s (a7 : Int) (t16 : Int)) = false := by simpa using hg39
   obtain ⟨hv1, hv2⟩ : GV.isP (i16 : Int) (vrow s (a7 : Int) (t16 : Int)) = (GV.getC (a7 : Int) (i16 : Int) s.cs).isSome ∧ (∀ v, GV.getC (a7 : Int) (i16 : Int) s.cs = some v → (vrow s (a7 : Int) (t16 : Int))[GV.plc (i16 : Int) (vrow s (a7 : Int) (t16 : Int))]? = some ((i16 : Int), v)) := vrow_get hdi.srt hq16 (a7 : Int)
   refine OI_eq [(1, pt l),(2, nt (a7 : Int)),(3, nt (i16 : Int)),(9, pt b1),(11, .pointer (some ⟨bP, oP + i16 * 7, none⟩)),(12, .pointer (some ⟨bR, oR + (a7 * 4 + t16) * 9, none⟩)),(13, nt ((GV.plc (i16 : Int) (vrow s (a7 : Int) (t16 : Int)) : Nat) : Int)),(14, .bool (GV.isP (i16 : Int) (vrow s (a7 : Int) (t16 : Int)))),(69, .bool true)] (by first | rfl | rw [hg39]) <| On 6 [1, 2, 3, 9, 11, 12, 13, 14, 69, 72] <| Lc (oR + (a7 * 4 + t16) * 9) (.slice A28 ((vrow s (a7 : Int) (t16 : Int)).length) c28) hR.blk (At.cell0 hR (es_at hx27) rfl) <| Ose [(1, pt l),(2, nt (a7 : Int)),(3, nt (i16 : Int)),(9, pt b1),(11, .pointer (some ⟨bP, oP + i16 * 7, none⟩)),(12, .pointer (some ⟨bR, oR + (a7 * 4 + t16) * 9, none⟩)),(13, nt ((GV.plc (i16 : Int) (vrow s (a7 : Int) (t16 : Int)) : Nat) : Int)),(14, .bool (GV.isP (i16 : Int) (vrow s (a7 : Int) (t16 : Int)))),(66, .bool (decide ((((vrow s (a7 : Int) (t16 : Int)).length : Nat) : Int) ≥ 6)))] <| Vi ((((vrow s (a7 : Int) (t16 : Int)).length : Nat) : Int) ≥ 6) (fun hc40 => ?_) (fun hc40 => ?_)
   ·
    refine Vs [(10, nt 3)] <| V_ret <| X_ret_block <| X_ret_join <| X_ret_then ?_
    have hE : voteE xs s (a7 : Int) (i16 : Int) x = 3 := by unfold voteE; rw [if_neg (by rintro (h | h); exact h ⟨by omega, by omega⟩; exact h hok)]; rw [hq16]; dsimp only; rw [if_neg (fun h => h (by simpa using hc20))]; rw [if_neg (by simpa using hc31)]; rw [if_neg hc38]; rw [if_pos ⟨by rw [← hv1]; exact hp, hc40⟩]
    exact X_return _ rfl ⟨by rw [hE], ⟨F, G, by rw [show voteS xs s (a7 : Int) (i16 : Int) x = s from by unfold voteS; rw [hE]; rfl]; exact ⟨hdi, (ltm hFlt), _, _, _, _, _, _, _, ⟨hy, ⟨_, _, hP⟩, ⟨_, _, hR⟩, hdv.ne, hdv.own, hdv.rlen, hra⟩⟩, by rw [show voteC xs cs s (a7 : Int) (i16 : Int) x = cs from by unfold voteC; rw [hE]; rfl]; exact hl, hF0, hGr, hdis⟩, hK0⟩
   refine V_skip <| X_block ?_
   exact X_join [(1, pt l),(2, nt (a7 : Int)),(3, nt (i16 : Int)),(9, pt b1),(11, .pointer (some ⟨bP, oP + i16 * 7, none⟩)),(12, .pointer (some ⟨bR, oR + (a7 * 4 + t16) * 9, none⟩)),(13, nt ((GV.plc (i16 : Int) (vrow s (a7 : Int) (t16 : Int)) : Nat) : Int)),(14, .bool (GV.isP (i16 : Int) (vrow s (a7 : Int) (t16 : Int))))] rfl ⟨(by unfold voteE; rw [if_neg (by rintro (h | h); exact h ⟨by omega, by omega⟩; exact h hok)]; rw [hq16]; dsimp only; rw [if_neg (fun h => h (by simpa using hc20))]; rw [if_neg (by simpa using hc31)]; rw [if_neg hc38]; rw [if_neg (fun h => hc40 h.2)]), hk30, rfl⟩
  ·
   rintro w41 _ ⟨hE, hk42, rfl⟩
   have hsz43 := Keep.size hk42
   replace hra := RAll.keep hra hk42 (fun _ _ _ _ _ f => f)
   replace hl := DLd.keep hl hk42 nk
   replace hK0 := hK0.tn hk42
   refine X_then <| Vr <| OI_slit (E := 46) (zv := .agg #[nt 0, nt 0, .bool false, nt 0, nt 0, nt 0, nt 0]) (sz := 7) (by_ := 56) 39 0 #[] [] [] (some 77) (by kernel_rfl) (by kernel_rfl) (by kernel_rfl) (by omega) rfl (by omega) (by intro v hv; cases hv) (by kernel_rfl) rfl ?_
   intro b44 w44 e44 hb44 k44 z44
   have hsz45 := Keep.size k44
   replace hy := hy.k0 (hk42.tr k44)
   replace hb1 := hb1.k0 (hk42.tr k44)
   replace hP := hP.k0 (hk42.tr k44)
   replace hR := hR.k0 (hk42.tr k44)
   replace hsk28 := hsk28.keep0 (hk42.tr k44)
   replace hra := RAll.keep hra k44 (fun _ _ _ _ _ f => f)
   replace hl := DLd.keep hl k44 nk
   replace hK0 := hK0.tn k44
   have hb44lt := hb44.lt
   refine On 4 [1, 2, 3, 9, 11, 12, 13, 14, 77, 80] <| Lc (oR + (a7 * 4 + t16) * 9) (.slice A28 ((vrow s (a7 : Int) (t16 : Int)).length) c28) hR.blk (At.cell0 hR (es_at hx27) rfl) <| On 6 [1, 2, 3, 9, 11, 12, 13, 14, 77, 81, 82] <| Ost (base := A28) (len := (vrow s (a7 : Int) (t16 : Int)).length) (cap := c28) (j := GV.plc (i16 : Int) (vrow s (a7 : Int) (t16 : Int))) 46 7 56 ?_
   have hl46 : ((vrow s (a7 : Int) (t16 : Int)).take (GV.plc (i16 : Int) (vrow s (a7 : Int) (t16 : Int)))).length = GV.plc (i16 : Int) (vrow s (a7 : Int) (t16 : Int)) := by rw [List.length_take]; omega
   have hy46 := (SlT.to hsk28 (i := GV.plc (i16 : Int) (vrow s (a7 : Int) (t16 : Int))) (by omega)).slr
   rw [hl46] at hy46
   refine OI_append (t := 39) (at2 := 39) (E := 46) (E2 := 46) (sz := 7) (by_ := 56) (zv := .agg #[nt 0, nt 0, .bool false, nt 0, nt 0, nt 0, nt 0]) (m := ([] : List (Int × Vt)).length) (k := GV.plc (i16 : Int) (vrow s (a7 : Int) (t16 : Int))) (.tmp 77) (.tmp 83) (sl_ b44 0 0 0) (.slice A28 (GV.plc (i16 : Int) (vrow s (a7 : Int) (t16 : Int))) c28) (some 84) (by kernel_rfl) (by kernel_rfl) (by kernel_rfl) (by kernel_rfl) (by kernel_rfl) (by kernel_rfl) (by kernel_rfl) (SlT.slr (slt_blk (xs := ([] : List (Int × Vt))) (f := castc) (sz := 7) hb44 castc_len rfl)) hy46 (fun u hu => by obtain ⟨z, _, hz⟩ := List.mem_flatMap.1 hu; exact castc_one z u hz) (by first | omega | ((repeat first | rw [List.length_append] | rw [List.length_cons] | rw [List.length_nil] | rw [List.length_take] | rw [List.length_drop]) <;> omega)) (by omega) (by first | omega | ((repeat first | rw [List.length_append] | rw [List.length_cons] | rw [List.length_nil] | rw [List.length_take] | rw [List.length_drop]) <;> omega)) (by omega) ?_
   intro vv9 w46 hap
   obtain ⟨A46, cap46, rfl, hA46, hk46, own46x⟩ := app_many (f := castc) (xs := ([] : List (Int × Vt))) (ys := ((vrow s (a7 : Int) (t16 : Int)).take (GV.plc (i16 : Int) (vrow s (a7 : Int) (t16 : Int))))) (A := (some ⟨b44, 0, none⟩)) (cap := 0) hap hl46 castc_len
   replace hk46 : Keep (only b44) w44 w46 := hk46.mono (fun i _ h => inA_some h)
   have own46 : ∀ q, inA A46 q → w.heap.size ≤ q ∧ q ≠ b1 := fun q hq => by rcases own46x q hq with h | h; (have h9 := inA_some h; show w.heap.size ≤ q ∧ q ≠ b1; omega); (show w.heap.size ≤ q ∧ q ≠ b1; omega)
   rw [List.nil_append] at hA46
   have hsz47 := Keep.size hk46
   replace hy := hy.k1 hk46
   replace hb1 := hb1.k1 hk46
   replace hP := hP.k1 hk46
   replace hR := hR.k1 hk46
   replace hsk28 := hsk28.keep hk46 (fun q hq hs => by have hs : q = b44 := hs; have g0 := hsw28 q hq; have g1 := hsx28 q hq; omega)
   replace hra := RAll.keep hra hk46 (fun q h1 h2 h3 h4 hs => by have hs : q = b44 := hs; first | exact h2 hs | exact h3 hs | exact h4 hs | (have h5 := hFlt q h1; omega))
   replace hl := DLd.keep hl hk46 (fun q hq hs => by have hs : q = b44 := hs; have g0 := hGo q hq; have g1 := hGlt q hq; omega)
   replace hK0 := frn hK0 hk46
   have lt46 := SlT.lt hA46
   have hcap46 := SlT.cap_le hA46
   refine On 9 [1, 2, 3, 9, 11, 12, 13, 14, 15] <| Oer <| On 2 [1, 2, 9, 11, 12, 13, 14, 85, 86] <| La 0 (Vt.cells x) 6 hb1 (take_all (Vt.len _)) (Vt.len _) <| On 4 [1, 2, 9, 11, 12, 13, 14, 85, 88] <| OI_slit (E := 46) (zv := .agg #[nt 0, nt 0, .bool false, nt 0, nt 0, nt 0, nt 0]) (sz := 7) (by_ := 56) 39 1 #[(0, (Operand.tmp 88))] [.agg #[nt (i16 : Int), nt x.kind, .bool x.aye, nt x.level, nt x.a, nt x.n, nt x.s]] [nt (i16 : Int), nt x.kind, .bool x.aye, nt x.level, nt x.a, nt x.n, nt x.s] (some 89) (by kernel_rfl) (by kernel_rfl) (by kernel_rfl) (by omega) rfl (by omega) (by intro v hv; simp only [List.mem_cons, List.not_mem_nil, or_false] at hv; rcases hv with rfl <;> rfl) (by kernel_rfl) rfl ?_
   intro b48 w48 e48 hb48 k48 z48
   have hsz49 := Keep.size k48
   replace hy := hy.k0 k48
   replace hb1 := hb1.k0 k48
   replace hP := hP.k0 k48
   replace hR := hR.k0 k48
   replace hsk28 := hsk28.keep0 k48
   replace hA46 := hA46.keep0 k48
   replace hra := RAll.keep hra k48 (fun _ _ _ _ _ f => f)
   replace hl := DLd.keep hl k48 nk
   replace hK0 := hK0.tn k48
   have hb48lt := hb48.lt
   refine OI_append (t := 39) (at2 := 39) (E := 46) (E2 := 46) (sz := 7) (by_ := 56) (zv := .agg #[nt 0, nt 0, .bool false, nt 0, nt 0, nt 0, nt 0]) (m := ((vrow s (a7 : Int) (t16 : Int)).take (GV.plc (i16 : Int) (vrow s (a7 : Int) (t16 : Int)))).length) (k := 1) (.tmp 85) (.tmp 89) (.slice A46 (((vrow s (a7 : Int) (t16 : Int)).take (GV.plc (i16 : Int) (vrow s (a7 : Int) (t16 : Int)))).length) cap46) (sl_ b48 0 1 1) (some 90) (by kernel_rfl) (by kernel_rfl) (by kernel_rfl) (by kernel_rfl) (by kernel_rfl) (by kernel_rfl) (by kernel_rfl) (SlT.slr hA46) (slr_one hb48 (castc_len ((i16 : Int), x))) (castc_one ((i16 : Int), x)) (by first | omega | (simp only [List.length_nil]; omega)) (by omega) (by first | omega | (simp only [List.length_nil]; omega)) (by omega) ?_
   intro vv9 w50 hap
   obtain ⟨A50, cap50, rfl, hA50, hk50, own50x⟩ := app_one (f := castc) (xs := ((vrow s (a7 : Int) (t16 : Int)).take (GV.plc (i16 : Int) (vrow s (a7 : Int) (t16 : Int))))) (x := ((i16 : Int), x)) (A := A46) (cap := cap46) hap (fun x _ => castc_len x) (castc_len _)
   have own50 : ∀ q, inA A50 q → w.heap.size ≤ q ∧ q ≠ b1 := fun q hq => by rcases own50x q hq with h | h; exact own46 q h; (show w.heap.size ≤ q ∧ q ≠ b1; omega)
   have hsz51 := Keep.size hk50
   replace hy := hy.keep hk50 (fun hs => by have h1 := own46 _ hs; have h2 := lt46 _ hs; omega)
   replace hb1 := hb1.keep hk50 (fun hs => by have h1 := own46 _ hs; have h2 := lt46 _ hs; omega)
   replace hP := hP.keep hk50 (fun hs => by have h1 := own46 _ hs; have h2 := lt46 _ hs; omega)
   replace hR := hR.keep hk50 (fun hs => by have h1 := own46 _ hs; have h2 := lt46 _ hs; omega)
   replace hsk28 := hsk28.keep hk50 (fun q hq hs => by have g0 := hsw28 q hq; have g1 := hsx28 q hq; have h1 := own46 q hs; have h2 := lt46 q hs; omega)
   replace hra := RAll.keep hra hk50 (fun q h1 _ _ _ hs => by have h4 := hFlt q h1; have h1 := own46 q hs; have h2 := lt46 q hs; omega)
   replace hl := DLd.keep hl hk50 (fun q hq hs => by have g0 := hGo q hq; have g1 := hGlt q hq; have h1 := own46 q hs; have h2 := lt46 q hs; omega)
   replace hK0 := Keep.fresh hK0 hk50 (by intro i hi hs; first | exact hs | (exfalso; have h1 := own46 i hs; have h2 := lt46 i hs; omega) | (have h1 := own46 i hs; have h2 := lt46 i hs; show _ ∨ _; omega))
   have lt50 := SlT.lt hA50
   refine Ose [(1, pt l),(2, nt (a7 : Int)),(9, pt b1),(11, .pointer (some ⟨bP, oP + i16 * 7, none⟩)),(12, .pointer (some ⟨bR, oR + (a7 * 4 + t16) * 9, none⟩)),(13, nt ((GV.plc (i16 : Int) (vrow s (a7 : Int) (t16 : Int)) : Nat) : Int)),(14, .bool (GV.isP (i16 : Int) (vrow s (a7 : Int) (t16 : Int)))),(15, .slice A50 ((((vrow s (a7 : Int) (t16 : Int)).take (GV.plc (i16 : Int) (vrow s (a7 : Int) (t16 : Int)))) ++ [((i16 : Int), x)]).length) cap50)] <| V_seqJ (fun wI e => ∃ T9 : Tly, ∃ j9 : Nat, ∃ LQ : List Value, (voteT s (a7 : Int) (i16 : Int) x (PollS.mk (t16 : Int) tl16 sta16 stp16) = addT T9 (gainT x (s.rc (a7 : Int) (t16 : Int)).got)) ∧ ((vrow s (a7 : Int) (t16 : Int)).take (GV.plc (i16 : Int) (vrow s (a7 : Int) (t16 : Int))) ++ ((i16 : Int), x) :: (vrow s (a7 : Int) (t16 : Int)).drop j9 = GV.insR (i16 : Int) x (vrow s (a7 : Int) (t16 : Int))) ∧ (j9 ≤ (vrow s (a7 : Int) (t16 : Int)).length) ∧ (At wI bP oP LQ TP 7 cP ((s.ps.set i16 (some (PollS.mk (t16 : Int) T9 sta16 stp16))).map dpc)) ∧ Keep (only bP) w50 wI ∧ e = [(1, pt l),(2, nt (a7 : Int)),(9, pt b1),(11, .pointer (some ⟨bP, oP + i16 * 7, none⟩)),(12, .pointer (some ⟨bR, oR + (a7 * 4 + t16) * 9, none⟩)),(13, nt (j9 : Int)),(15, .slice A50 ((((vrow s (a7 : Int) (t16 : Int)).take (GV.plc (i16 : Int) (vrow s (a7 : Int) (t16 : Int)))) ++ [((i16 : Int), x)]).length) cap50)]) ?_ ?_
   ·
    have hk52 : Keep (only bP) w50 w50 := Keep.refl _ _
    refine Vs [(1, pt l),(2, nt (a7 : Int)),(9, pt b1),(11, .pointer (some ⟨bP, oP + i16 * 7, none⟩)),(12, .pointer (some ⟨bR, oR + (a7 * 4 + t16) * 9, none⟩)),(13, nt ((GV.plc (i16 : Int) (vrow s (a7 : Int) (t16 : Int)) : Nat) : Int)),(15, .slice A50 ((((vrow s (a7 : Int) (t16 : Int)).take (GV.plc (i16 : Int) (vrow s (a7 : Int) (t16 : Int)))) ++ [((i16 : Int), x)]).length) cap50),(91, .bool (GV.isP (i16 : Int) (vrow s (a7 : Int) (t16 : Int))))] <| Vb (GV.isP (i16 : Int) (vrow s (a7 : Int) (t16 : Int))) (fun hc53 => ?_) (fun hc53 => ?_)
    ·
     have hp : GV.isP (i16 : Int) (vrow s (a7 : Int) (t16 : Int)) = true := by simpa using hc53
     obtain ⟨hv1, hv2⟩ : GV.isP (i16 : Int) (vrow s (a7 : Int) (t16 : Int)) = (GV.getC (a7 : Int) (i16 : Int) s.cs).isSome ∧ (∀ v, GV.getC (a7 : Int) (i16 : Int) s.cs = some v → (vrow s (a7 : Int) (t16 : Int))[GV.plc (i16 : Int) (vrow s (a7 : Int) (t16 : Int))]? = some ((i16 : Int), v)) := vrow_get hdi.srt hq16 (a7 : Int)
     have hpl9 := GV.isP_lt hp
     obtain ⟨v9, hv9⟩ := Option.isSome_iff_exists.1 (hv1.symm.trans hp)
     refine V_seq <| Vd1 (acts [17, 18, 21]) none_ [5, 6, 7, 8, 9, 10, 11, 12, 13, 14, 15, 16, 17, 1, 2, 3, 4, 18, 0, 19, 20, 21] fun w55 hk54 he56 K59 _ => ?_
     replace hP := hP.k0 hk54
     replace hR := hR.k0 hk54
     replace hsk28 := hsk28.keep0 hk54
     replace hk52 := hk52.tn hk54
     have qhP := hP
     have qhR := hR
     refine Gn [8, 9, 10, 11, 12, 13, 14, 15, 16, 17, 1, 2, 3, 4, 18, 0, 19, 20, 21] [1, 2, 9, 11, 12, 13, 15, 99] <| Mc0 (oR + (a7 * 4 + t16) * 9) (.slice A28 ((vrow s (a7 : Int) (t16 : Int)).length) c28) qhR.blk (At.cell0 qhR (es_at hx27) rfl) <| Gn [10, 11, 12, 13, 14, 15, 16, 17, 1, 2, 3, 4, 18, 0, 19, 20, 21] [1, 2, 9, 11, 12, 13, 15, 100, 101] ?_
     obtain ⟨b60, o60, L60, T60, rfl, hat60⟩ := SlT.opn hsk28
     have hb60lt := hat60.blk.lt
     have hob61 := hsw28 b60 ⟨_, rfl, rfl⟩
     have hob62 := hsx28 b60 ⟨_, rfl, rfl⟩
     have hne63 : ∀ q, G q → q ≠ b60 := fun q hq hs => (fun q h1 h2 => hdis q (hok28 q h2).1 h1) q hq ⟨_, rfl, hs⟩
     have own64 := fun q hq => And.intro (hGo q hq) (hne63 q hq)
     refine Gi (b := b60) (o := o60) (len := (vrow s (a7 : Int) (t16 : Int)).length) (cap := c28) (j := GV.plc (i16 : Int) (vrow s (a7 : Int) (t16 : Int))) 46 7 56 .i64 <| Gn [12, 13, 14, 15, 16, 17, 1, 2, 3, 4, 18, 0, 19, 20, 21] [1, 2, 9, 11, 12, 13, 15, 103] <| Ma (o60 + (GV.plc (i16 : Int) (vrow s (a7 : Int) (t16 : Int))) * 7 + 1) (Vt.cells v9) 6 hat60.blk id (At.sub hat60 (es_at (hv2 v9 hv9)) (by decide) rfl) (Vt.len _) <| Gn [16, 17, 1, 2, 3, 4, 18, 0, 19, 20, 21] [1, 2, 9, 11, 12, 13, 15, 104, 107] <| Ma (oR + (a7 * 4 + t16) * 9 + 5) (Wgt.cells ((s.rc (a7 : Int) (t16 : Int)).got)) 2 qhR.blk id (At.sub qhR (es_at hx27) (by decide) rfl) (Wgt.len _) <| Hg (rGain_spec v9 ((s.rc (a7 : Int) (t16 : Int)).got) _) ?_
     rintro _ w65 ⟨rfl, hk66⟩
     have K67 := K59.tr (Keep.ofNone hk66)
     refine ⟨_, rfl, K67, ?_⟩
     have hzK67 := Keep.size K67
     have hsz68 := Keep.size hk66
     replace hk52 := hk52.tn hk66
     refine Gn [4, 18, 0, 19, 20, 21] [1, 2, 9, 11, 12, 13, 15, 95, 109] <| Ma (oP + i16 * 7 + 4) (Tly.cells tl16) 3 qhP.blk id (At.sub qhP (es_at hqi16) (by decide) rfl) (Tly.len _) <| Hg (rSub_spec tl16 (gainT v9 ((s.rc (a7 : Int) (t16 : Int)).got)) _) ?_
     rintro _ w69 ⟨rfl, hk70⟩
     have K71 := K67.tr (Keep.ofNone hk70)
     refine ⟨_, rfl, K71, ?_⟩
     have hzK71 := Keep.size K71
     have hsz72 := Keep.size hk70
     replace hP := hP.k0 (hk66.tr hk70)
     replace hk52 := hk52.tn hk70
     refine Gn [21] [1, 2, 9, 11, 12, 13, 15, 110, 112] <| GI_final 21 (by kernel_rfl) (by kernel_rfl) <| TsN (m := 3) (some (PollS.mk (t16 : Int) (subT tl16 (gainT v9 ((s.rc (a7 : Int) (t16 : Int)).got))) sta16 stp16) : (Option PollS)) 4 (Tly.cells (subT tl16 (gainT v9 ((s.rc (a7 : Int) (t16 : Int)).got)))) hP hqi16 rfl (Tly.len _) (Tly.one _) ?_
     intro w73 hat77 hk75 hz76 hlhx78 hx78
     have hsz79 := Keep.size hk75
     replace hk52 := Keep.fresh hk52 hk75 (by intro i hi hs; have hs2 : i = bP := hs; first | exact hs | (exfalso; omega) | (rw [hs2]; exact .inl (by first | exact hdv.own.1 | exact hdv.own.2.1 | exact hdv.own.2.2)))
     refine Oe <| V_region ?_
     have hw80 : i64.wrap (((GV.plc (i16 : Int) (vrow s (a7 : Int) (t16 : Int)) : Nat) : Int) + 1) = ((GV.plc (i16 : Int) (vrow s (a7 : Int) (t16 : Int)) + 1 : Nat) : Int) := wrp
     refine On 2 [1, 2, 9, 11, 12, 15, 114] <| Oq (u := nt (i64.wrap (((GV.plc (i16 : Int) (vrow s (a7 : Int) (t16 : Int)) : Nat) : Int) + 1))) (v := nt ((GV.plc (i16 : Int) (vrow s (a7 : Int) (t16 : Int)) + 1 : Nat) : Int)) 114 (by rw [hw80]) <| Os 3 [(1, pt l),(2, nt (a7 : Int)),(9, pt b1),(11, .pointer (some ⟨bP, oP + i16 * 7, none⟩)),(12, .pointer (some ⟨bR, oR + (a7 * 4 + t16) * 9, none⟩)),(13, nt ((GV.plc (i16 : Int) (vrow s (a7 : Int) (t16 : Int)) + 1 : Nat) : Int)),(15, .slice A50 ((((vrow s (a7 : Int) (t16 : Int)).take (GV.plc (i16 : Int) (vrow s (a7 : Int) (t16 : Int)))) ++ [((i16 : Int), x)]).length) cap50)] <| OI_end rfl ?_
     exact X_join [(1, pt l),(2, nt (a7 : Int)),(9, pt b1),(11, .pointer (some ⟨bP, oP + i16 * 7, none⟩)),(12, .pointer (some ⟨bR, oR + (a7 * 4 + t16) * 9, none⟩)),(13, nt ((GV.plc (i16 : Int) (vrow s (a7 : Int) (t16 : Int)) + 1 : Nat) : Int)),(15, .slice A50 ((((vrow s (a7 : Int) (t16 : Int)).take (GV.plc (i16 : Int) (vrow s (a7 : Int) (t16 : Int)))) ++ [((i16 : Int), x)]).length) cap50)] rfl ⟨(subT tl16 (gainT v9 ((s.rc (a7 : Int) (t16 : Int)).got))),((GV.plc (i16 : Int) (vrow s (a7 : Int) (t16 : Int))) + 1), _, (by unfold voteT; rw [if_pos (hv1.symm.trans hp), hv9]; rfl),(by rw [GV.insR_plc, if_pos hp]), by omega, hat77, hk52, rfl⟩
    have hp : GV.isP (i16 : Int) (vrow s (a7 : Int) (t16 : Int)) = false := by simpa using hc53
    obtain ⟨hv1, hv2⟩ : GV.isP (i16 : Int) (vrow s (a7 : Int) (t16 : Int)) = (GV.getC (a7 : Int) (i16 : Int) s.cs).isSome ∧ (∀ v, GV.getC (a7 : Int) (i16 : Int) s.cs = some v → (vrow s (a7 : Int) (t16 : Int))[GV.plc (i16 : Int) (vrow s (a7 : Int) (t16 : Int))]? = some ((i16 : Int), v)) := vrow_get hdi.srt hq16 (a7 : Int)
    refine V_skip ?_
    exact X_join [(1, pt l),(2, nt (a7 : Int)),(9, pt b1),(11, .pointer (some ⟨bP, oP + i16 * 7, none⟩)),(12, .pointer (some ⟨bR, oR + (a7 * 4 + t16) * 9, none⟩)),(13, nt ((GV.plc (i16 : Int) (vrow s (a7 : Int) (t16 : Int)) : Nat) : Int)),(15, .slice A50 ((((vrow s (a7 : Int) (t16 : Int)).take (GV.plc (i16 : Int) (vrow s (a7 : Int) (t16 : Int)))) ++ [((i16 : Int), x)]).length) cap50)] rfl ⟨tl16, (GV.plc (i16 : Int) (vrow s (a7 : Int) (t16 : Int))), _, (by unfold voteT; rw [if_neg (by rw [← hv1, hp]; decide)]),(by rw [GV.insR_plc, if_neg (by rw [hp]; decide)]), hplc, (by rw [set_self_ hqi16]; exact hP), hk52, rfl⟩
   ·
    rintro w81 _ ⟨T9, j9, LQ, hT9, hj9, hj9l, hQ, hk82, rfl⟩
    have hsz83 := Keep.size hk82
    replace hy := hy.k1 hk82
    replace hb1 := hb1.k1 hk82
    replace hR := hR.k1 hk82
    replace hsk28 := hsk28.keep hk82 (fun q hq hs => by have hs : q = bP := hs; have g0 := hsw28 q hq; have g1 := hsx28 q hq; omega)
    replace hA50 := hA50.keep hk82 (fun q hq hs => by have hs : q = bP := hs; have g0 := own50 q hq; have g1 := lt50 q hq; omega)
    replace hra := RAll.keep hra hk82 (fun _ _ _ h _ hs => h hs)
    replace hl := DLd.keep hl hk82 (fun q hq hs => by have hs : q = bP := hs; have g0 := hGo q hq; have g1 := hGlt q hq; omega)
    replace hK0 := fro hK0 hk82 (.inl hdv.own.2.1)
    have hq9l : (s.ps.set i16 (some (PollS.mk (t16 : Int) T9 sta16 stp16))).length = s.ps.length := List.length_set
    have hq9 : (s.ps.set i16 (some (PollS.mk (t16 : Int) T9 sta16 stp16)))[i16]? = some (some (PollS.mk (t16 : Int) T9 sta16 stp16)) := List.getElem?_set_self (List.getElem?_eq_some_iff.1 hqi16).1
    refine Vr <| On 5 [1, 2, 9, 11, 12, 13, 115, 116, 119] <| Lc (oR + (a7 * 4 + t16) * 9) (.slice A28 ((vrow s (a7 : Int) (t16 : Int)).length) c28) hR.blk (At.cell0 hR (es_at hx27) rfl) <| On 7 [1, 2, 9, 11, 12, 115, 116, 120, 121] <| OI_pure (some 122) ((Op.slice 39 (Operand.tmp 120) (some (Operand.tmp 121)) none none)) (by kernel_rfl) (pure_sliceSuf (E := 46) (sz := 7) (by_ := 56) (A := A28) (len := (vrow s (a7 : Int) (t16 : Int)).length) (cap := c28) (l := j9) (kd := .i64) (by kernel_rfl) (by kernel_rfl) (by kernel_rfl) (by omega) (by omega)) ?_
    have hl84 : ((vrow s (a7 : Int) (t16 : Int)).drop j9).length = (vrow s (a7 : Int) (t16 : Int)).length - j9 := List.length_drop
    have hy84 := (SlT.from_ hsk28 (i := j9) (by omega)).slr
    rw [hl84] at hy84
    refine OI_append (t := 39) (at2 := 39) (E := 46) (E2 := 46) (sz := 7) (by_ := 56) (zv := .agg #[nt 0, nt 0, .bool false, nt 0, nt 0, nt 0, nt 0]) (m := (((vrow s (a7 : Int) (t16 : Int)).take (GV.plc (i16 : Int) (vrow s (a7 : Int) (t16 : Int)))) ++ [((i16 : Int), x)]).length) (k := (vrow s (a7 : Int) (t16 : Int)).length - j9) (.tmp 116) (.tmp 122) (.slice A50 ((((vrow s (a7 : Int) (t16 : Int)).take (GV.plc (i16 : Int) (vrow s (a7 : Int) (t16 : Int)))) ++ [((i16 : Int), x)]).length) cap50) (.slice (sufA A28 c28 j9 7) ((vrow s (a7 : Int) (t16 : Int)).length - j9) (c28 - j9)) (some 123) (by kernel_rfl) (by kernel_rfl) (by kernel_rfl) (by kernel_rfl) (by kernel_rfl) (by kernel_rfl) (by kernel_rfl) (SlT.slr hA50) hy84 (fun u hu => by obtain ⟨z, _, hz⟩ := List.mem_flatMap.1 hu; exact castc_one z u hz) (by first | omega | ((repeat first | rw [List.length_append] | rw [List.length_cons] | rw [List.length_nil] | rw [List.length_take] | rw [List.length_drop]) <;> omega)) (by omega) (by first | omega | ((repeat first | rw [List.length_append] | rw [List.length_cons] | rw [List.length_nil] | rw [List.length_take] | rw [List.length_drop]) <;> omega)) (by omega) ?_
    intro vv9 w84 hap
    obtain ⟨A84, cap84, rfl, hA84, hk84, own84x⟩ := app_many (f := castc) (xs := (((vrow s (a7 : Int) (t16 : Int)).take (GV.plc (i16 : Int) (vrow s (a7 : Int) (t16 : Int)))) ++ [((i16 : Int), x)])) (ys := ((vrow s (a7 : Int) (t16 : Int)).drop j9)) (A := A50) (cap := cap50) hap hl84 castc_len
    have own84 : ∀ q, inA A84 q → w.heap.size ≤ q ∧ q ≠ b1 := fun q hq => by rcases own84x q hq with h | h; (have h8 := own50 q h; have h9 := lt50 q h; show w.heap.size ≤ q ∧ q ≠ b1; omega); (show w.heap.size ≤ q ∧ q ≠ b1; omega)
    have hsz85 := Keep.size hk84
    replace hy := hy.keep hk84 (fun hs => by have h1 := own50 _ hs; have h2 := lt50 _ hs; omega)
    replace hb1 := hb1.keep hk84 (fun hs => by have h1 := own50 _ hs; have h2 := lt50 _ hs; omega)
    replace hQ := hQ.keep hk84 (fun hs => by have h1 := own50 _ hs; have h2 := lt50 _ hs; omega)
    replace hR := hR.keep hk84 (fun hs => by have h1 := own50 _ hs; have h2 := lt50 _ hs; omega)
    replace hra := RAll.keep hra hk84 (fun q h1 _ _ _ hs => by have h4 := hFlt q h1; have h1 := own50 q hs; have h2 := lt50 q hs; omega)
    replace hl := DLd.keep hl hk84 (fun q hq hs => by have g0 := hGo q hq; have g1 := hGlt q hq; have h1 := own50 q hs; have h2 := lt50 q hs; omega)
    replace hK0 := Keep.fresh hK0 hk84 (by intro i hi hs; first | exact hs | (exfalso; have h1 := own50 i hs; have h2 := lt50 i hs; omega) | (have h1 := own50 i hs; have h2 := lt50 i hs; show _ ∨ _; omega))
    have lt84 := SlT.lt hA84
    have hcap84 := SlT.cap_le hA84
    refine On 11 [1, 2, 9, 11, 12, 123, 125] <| Ts1 (DR.mk A84 cap84 ((((vrow s (a7 : Int) (t16 : Int)).take (GV.plc (i16 : Int) (vrow s (a7 : Int) (t16 : Int)))) ++ [((i16 : Int), x)]) ++ ((vrow s (a7 : Int) (t16 : Int)).drop j9)) ((s.rc (a7 : Int) (t16 : Int)).d.isSome) (dTo (s.rc (a7 : Int) (t16 : Int))) (dLv (s.rc (a7 : Int) (t16 : Int))) (dN (s.rc (a7 : Int) (t16 : Int))) ((s.rc (a7 : Int) (t16 : Int)).got.v) ((s.rc (a7 : Int) (t16 : Int)).got.c) ((s.rc (a7 : Int) (t16 : Int)).till) ((s.rc (a7 : Int) (t16 : Int)).n) : DR) 0 (.slice A84 (((((vrow s (a7 : Int) (t16 : Int)).take (GV.plc (i16 : Int) (vrow s (a7 : Int) (t16 : Int)))) ++ [((i16 : Int), x)]) ++ ((vrow s (a7 : Int) (t16 : Int)).drop j9)).length) cap84) hR hx27 rfl ?_
    intro w86 hat90 hk88 hz89 hlhx91 hx91
    have hsz92 := Keep.size hk88
    replace hy := hy.k1 hk88
    replace hb1 := hb1.k1 hk88
    replace hQ := hQ.k1 hk88
    replace hA84 := hA84.keep hk88 (fun q hq hs => by have hs : q = bR := hs; have g0 := own84 q hq; have g1 := lt84 q hq; omega)
    replace hra := RAll.keep hra hk88 (fun _ _ _ _ h hs => h hs)
    replace hl := DLd.keep hl hk88 (fun q hq hs => by have hs : q = bR := hs; have g0 := hGo q hq; have g1 := hGlt q hq; omega)
    replace hK0 := fro hK0 hk88 (.inl hdv.own.2.2)
    refine Oe <| V_seq <| Vd1 (acts [10, 11, 14]) none_ [5, 6, 7, 8, 9, 10, 1, 2, 3, 4, 11, 0, 12, 13, 14] fun w94 hk93 he95 K98 _ => ?_
    replace hb1 := hb1.k0 hk93
    replace hQ := hQ.k0 hk93
    replace hat90 := hat90.keep hk93 id
    replace hra := RAll.keep hra hk93 (fun _ _ _ _ _ f => f)
    replace hl := DLd.keep hl hk93 nk
    replace hK0 := hK0.tn hk93
    have qhb1 := hb1
    have qhQ := hQ
    have qhat90 := hat90
    refine Ma 0 (Vt.cells x) 6 qhb1 id (take_all (Vt.len _)) (Vt.len _) <| Gn [9, 10, 1, 2, 3, 4, 11, 0, 12, 13, 14] [1, 2, 9, 11, 131, 134] <| Ma (oR + (a7 * 4 + t16) * 9 + 5) (Wgt.cells ((s.rc (a7 : Int) (t16 : Int)).got)) 2 qhat90.blk id (At.sub qhat90 (es_at hx91) (by decide) rfl) (Wgt.len _) <| Hg (rGain_spec x ((s.rc (a7 : Int) (t16 : Int)).got) _) ?_
    rintro _ w99 ⟨rfl, hk100⟩
    have K101 := K98.tr (Keep.ofNone hk100)
    refine ⟨_, rfl, K101, ?_⟩
    have hzK101 := Keep.size K101
    have hsz102 := Keep.size hk100
    replace hat90 := hat90.keep hk100 id
    replace hra := RAll.keep hra hk100 (fun _ _ _ _ _ f => f)
    replace hl := DLd.keep hl hk100 nk
    replace hK0 := hK0.tn hk100
    refine Gn [4, 11, 0, 12, 13, 14] [1, 2, 9, 11, 129, 136] <| Ma (oP + i16 * 7 + 4) (Tly.cells T9) 3 qhQ.blk id (At.sub qhQ (es_at hq9) (by decide) rfl) (Tly.len _) <| Hg (rAdd_spec T9 (gainT x ((s.rc (a7 : Int) (t16 : Int)).got)) _) ?_
    rintro _ w103 ⟨rfl, hk104⟩
    have K105 := K101.tr (Keep.ofNone hk104)
    refine ⟨_, rfl, K105, ?_⟩
    have hzK105 := Keep.size K105
    have hsz106 := Keep.size hk104
    replace hy := hy.k0 ((hk93.tr hk100).tr hk104)
    replace hb1 := hb1.k0 (hk100.tr hk104)
    replace hQ := hQ.k0 (hk100.tr hk104)
    replace hat90 := hat90.keep hk104 id
    replace hA84 := hA84.keep0 ((hk93.tr hk100).tr hk104)
    replace hra := RAll.keep hra hk104 (fun _ _ _ _ _ f => f)
    replace hl := DLd.keep hl hk104 nk
    replace hK0 := hK0.tn hk104
    refine Gn [14] [1, 2, 9, 11, 137, 139] <| GI_final 14 (by kernel_rfl) (by kernel_rfl) <| TssN (m := 3) (some (PollS.mk (t16 : Int) (addT T9 (gainT x ((s.rc (a7 : Int) (t16 : Int)).got))) sta16 stp16) : (Option PollS)) 4 (Tly.cells (addT T9 (gainT x ((s.rc (a7 : Int) (t16 : Int)).got)))) hQ hq9 rfl (Tly.len _) (Tly.one _) ?_
    intro w107 hat111 hk109 hz110 hlhx112 hx112
    have hsz113 := Keep.size hk109
    replace hy := hy.k1 hk109
    replace hb1 := hb1.k1 hk109
    replace hat90 := hat90.keep hk109 (by show ¬ (_ = _); omega)
    replace hA84 := hA84.keep hk109 (fun q hq hs => by have hs : q = bP := hs; have g0 := own84 q hq; have g1 := lt84 q hq; omega)
    replace hra := RAll.keep hra hk109 (fun _ _ _ h _ hs => h hs)
    replace hl := DLd.keep hl hk109 (fun q hq hs => by have hs : q = bP := hs; have g0 := hGo q hq; have g1 := hGlt q hq; omega)
    replace hK0 := fro hK0 hk109 (.inl hdv.own.2.1)
    refine Oe <| V_seq <| Vd1 (acts [7, 8]) G [6, 7, 0, 1, 2, 3, 4, 5, 8] fun w115 hk114 he116 K119 _ => ?_
    replace hb1 := hb1.k0 hk114
    replace hat90 := hat90.keep hk114 id
    replace hat111 := hat111.keep hk114 id
    replace hra := RAll.keep hra hk114 (fun _ _ _ _ _ f => f)
    replace hl := DLd.keep hl hk114 nk
    replace hK0 := hK0.tn hk114
    have qhb1 := hb1
    have qhat111 := hat111
    refine Ma 0 (Vt.cells x) 6 qhb1 (fun hs => by have h1 := hGo _ hs; have h2 := hGlt _ hs; omega) (take_all (Vt.len _)) (Vt.len _) <| Hg (rCapital_spec x _) ?_
    rintro _ w120 ⟨rfl, hk121⟩
    have K122 := K119.tr (Keep.ofNone hk121)
    refine ⟨_, rfl, K122, ?_⟩
    have hzK122 := Keep.size K122
    have hsz123 := Keep.size hk121
    replace hy := hy.k0 (hk114.tr hk121)
    replace hat90 := hat90.keep hk121 id
    replace hat111 := hat111.keep hk121 id
    replace hA84 := hA84.keep0 (hk114.tr hk121)
    replace hra := RAll.keep hra hk121 (fun _ _ _ _ _ f => f)
    replace hl := DLd.keep hl hk121 nk
    replace hK0 := hK0.tn hk121
    refine Gn [5, 8] [140, 141, 144, 147] <| Mc (oP + i16 * 7 + 1) (nt (t16 : Int)) qhat111.blk (fun hs => by have h1 := hGo _ hs; have h2 := hGlt _ hs; omega) (At.cell qhat111 (es_at hx112) rfl) <| GI_final 8 (by kernel_rfl) (by kernel_rfl) <| Kg (raise6_spec G l xs cs (a7 : Int) (t16 : Int) (capI x) _ hl hmax) ?_
    rintro _ w126 ⟨rfl, ⟨F128, ho129, hfr130⟩, hk127⟩
    refine ⟨_, rfl, ?_⟩
    have hsz131 := Keep.size hk127
    replace hy := hy.keep hk127 (fun hs => by have h1 := hGo _ hs; have h2 := hGlt _ hs; omega)
    replace hat90 := hat90.keep hk127 (fun hs => by have h1 := hGo _ hs; have h2 := hGlt _ hs; omega)
    replace hat111 := hat111.keep hk127 (fun hs => by have h1 := hGo _ hs; have h2 := hGlt _ hs; omega)
    replace hA84 := hA84.keep hk127 (fun q hq hs => by have g0 := own84 q hq; have g1 := lt84 q hq; have h1 := hGo q hs; have h2 := hGlt q hs; omega)
    replace hra := RAll.keep hra hk127 (fun q h1 _ _ _ hs => hdis q h1 hs)
    replace hK0 := frR hK0 hk127 hGr
    have own133 : ∀ q, F128 q → q ≠ y ∧ q ≠ bP ∧ q ≠ bR ∧ q ≠ y ∧ q ≠ b1 := fun q hq => by rcases hfr130 q hq with h | h; (have h1 := hGo q h; have h2 := hGlt q h; omega); omega
    have lt132 := DLd.lt ho129
    have rel134 : ∀ q, F128 q → G q ∨ w.heap.size ≤ q := fun q hq => by rcases hfr130 q hq with h | h; exact hGr q h; exact .inr (by omega)
    have dis135 : ∀ q, F128 q → ¬ inA A28 q := fun q h1 h2 => by rcases hfr130 q h1 with h | h; exact (fun q h1 h2 => hdis q (hok28 q h2).1 h1) q h h2; (have h4 := hsx28 q h2; omega)
    refine Oer <| Ose [(10, nt 0)] <| V_ret ?_
    have hT : voteT s (a7 : Int) (i16 : Int) x (PollS.mk (t16 : Int) tl16 sta16 stp16) = (addT T9 (gainT x ((s.rc (a7 : Int) (t16 : Int)).got))) := hT9
    have hS : voteS xs s (a7 : Int) (i16 : Int) x = (VS.mk (s.setP i16 (PollS.mk (t16 : Int) (addT T9 (gainT x ((s.rc (a7 : Int) (t16 : Int)).got))) sta16 stp16)).ps (GV.setC (a7 : Int) (i16 : Int) x s.cs) s.rc) := by unfold voteS; rw [if_pos hE, hq16]; dsimp only; (rw [hT, Int.toNat_natCast]) <;> rfl
    have hC : voteC xs cs s (a7 : Int) (i16 : Int) x = raiseC cs (a7 : Int) (t16 : Int) (capI x) := by unfold voteC; rw [if_pos hE, hq16]
    have hD := hdi.vote_ xs (a7 : Int) (i16 : Int) x
    have hvr : ∀ a b, vrow (VS.mk (s.setP i16 (PollS.mk (t16 : Int) (addT T9 (gainT x ((s.rc (a7 : Int) (t16 : Int)).got))) sta16 stp16)).ps (GV.setC (a7 : Int) (i16 : Int) x s.cs) s.rc) a b = if a = (a7 : Int) ∧ (t16 : Int) = b then GV.insR (i16 : Int) x (vrow s a b) else vrow s a b := fun a b => vrow_vote hdi.srt (q' := (PollS.mk (t16 : Int) (addT T9 (gainT x ((s.rc (a7 : Int) (t16 : Int)).got))) sta16 stp16)) hqi16 rfl _ _ _ _
    have hls : ((((vrow s (a7 : Int) (t16 : Int)).take (GV.plc (i16 : Int) (vrow s (a7 : Int) (t16 : Int)))) ++ [((i16 : Int), x)]) ++ ((vrow s (a7 : Int) (t16 : Int)).drop j9)) = vrow (VS.mk (s.setP i16 (PollS.mk (t16 : Int) (addT T9 (gainT x ((s.rc (a7 : Int) (t16 : Int)).got))) sta16 stp16)).ps (GV.setC (a7 : Int) (i16 : Int) x s.cs) s.rc) (a7 : Int) (t16 : Int) := by rw [hvr, if_pos ⟨rfl, rfl⟩, ← hj9]; simp
    have hra9 := RAll.set (F' := (fun q => F q ∨ inA A84 q)) (j := a7 * 4 + t16) (s' := (VS.mk (s.setP i16 (PollS.mk (t16 : Int) (addT T9 (gainT x ((s.rc (a7 : Int) (t16 : Int)).got))) sta16 stp16)).ps (GV.setC (a7 : Int) (i16 : Int) x s.cs) s.rc)) hra (fun q h => .inl h) A84 cap84 (by rw [vrJ_at _ _ _ htl16, ← hls]; exact hA84) (fun q hq => by have h1 := own84 q hq; exact ⟨.inr hq, by omega, by omega, by omega⟩) (fun i hi _ => ⟨by show vrow _ _ _ = vrow _ _ _; rw [hvr, if_neg (rc_other hi)], rfl⟩) (e := (DR.mk A84 cap84 ((((vrow s (a7 : Int) (t16 : Int)).take (GV.plc (i16 : Int) (vrow s (a7 : Int) (t16 : Int)))) ++ [((i16 : Int), x)]) ++ ((vrow s (a7 : Int) (t16 : Int)).drop j9)) ((s.rc (a7 : Int) (t16 : Int)).d.isSome) (dTo (s.rc (a7 : Int) (t16 : Int))) (dLv (s.rc (a7 : Int) (t16 : Int))) (dN (s.rc (a7 : Int) (t16 : Int))) ((s.rc (a7 : Int) (t16 : Int)).got.v) ((s.rc (a7 : Int) (t16 : Int)).got.c) ((s.rc (a7 : Int) (t16 : Int)).till) ((s.rc (a7 : Int) (t16 : Int)).n))) (by rw [vrJ_at _ _ _ htl16, rcJ_at _ _ _ htl16, ← hls]; rfl)
    exact X_return _ rfl ⟨by rw [hE], ⟨(fun q => F q ∨ inA A84 q), F128, by rw [hS] at hD ⊢; exact ⟨hD, (fun q hq => by rcases hq with hq | hq; (have h9 := hFlt q hq; omega); exact SlT.lt hA84 q hq), _, _, _, _, _, _, _, hy, ⟨_, _, (by have h9 := hat111; first | exact h9 | ((try rw [List.set_set] at h9); exact h9))⟩, ⟨_, _, hat90⟩, hdv.ne, ⟨.inl hdv.own.1, .inl hdv.own.2.1, .inl hdv.own.2.2⟩, by rw [List.length_set]; exact hdv.rlen, hra9⟩, by rw [hC]; exact ho129, fun q hq => hq.imp id (fun h => by have h9 := own84 q h; omega), rel134, (fun q h1 h2 => by rcases hfr130 q h2 with h3 | h3; (rcases h1 with h1 | h1; exact hdis q h1 h3; (have h4 := own84 q h1; have h5 := hGlt q h3; omega)); (rcases h1 with h1 | h1; (have h4 := hFlt q h1; omega); (have h4 := lt84 q h1; omega)))⟩, hK0⟩
 have hiawho : ¬ (0 ≤ who ∧ who ≤ 9) := by have h9 : isA who = false := (by simpa using hg6); simp [isA] at h9; omega
 refine OI_eq [(0, pt y),(1, pt l),(2, nt who),(3, nt ref),(9, pt b1),(20, .bool true)] (by first | rfl | rw [hg6]) <| Oen [0, 1, 2, 3, 9, 16] <| Vo <| Vs [(10, nt 1)] <| V_ret <| X_ret_block <| X_ret_then ?_
 have hE : voteE xs s who ref x = 1 := by unfold voteE; rw [if_pos (.inl hiawho)]
 exact X_return _ rfl ⟨by rw [hE], ⟨F, G, by rw [show voteS xs s who ref x = s from by unfold voteS; rw [hE]; rfl]; exact ⟨hdi, (ltm hFlt), _, _, _, _, _, _, _, ⟨hy, ⟨_, _, hP⟩, ⟨_, _, hR⟩, hdv.ne, hdv.own, hdv.rlen, hra⟩⟩, by rw [show voteC xs cs s who ref x = cs from by unfold voteC; rw [hE]; rfl]; exact hl, hF0, hGr, hdis⟩, hK0⟩
end Go.Al
namespace Go.Al
open Go Go.RowKit Go.Proofs
set_option maxHeartbeats 1000000 in
theorem ddelegate_spec (F G : Nat → Prop) (y l : Nat) (s : VS) (xs : List Acc) (cs : List Ci) (who t to level n : Int) (w : World) (h : DVt F w y s) (hl : DLd G w l xs cs) (hdis : ∀ q, F q → ¬ G q) (hmax : cs.length < 90000) : Calls Tryz.prog 76 #[pt y, pt l, nt who, nt t, nt to, nt level, nt n] w fun e w' => e = .returned (nt (delE xs s who t to level n)) ∧ (∃ F' G', DVt F' w' y (delS xs s who t to level n) ∧ DLd G' w' l xs (delC2 xs cs s who t to level n) ∧ (∀ q, F' q → F q ∨ w.heap.size ≤ q) ∧ (∀ q, G' q → G q ∨ w.heap.size ≤ q) ∧ (∀ q, F' q → ¬ G' q)) ∧ Keep (fun q => F q ∨ G q) w w' := by
 obtain ⟨hdi, hFlt, bP, oP, cP, bR, oR, cR, rs, hdv⟩ := h
 obtain ⟨LP, TP, hP⟩ := hdv.pl
 obtain ⟨LR, TR, hR⟩ := hdv.rl
 have hy := hdv.blk
 obtain ⟨hyP, hyR, hPR⟩ := hdv.ne
 have hylt := hy.lt
 have hbPlt := hP.blk.lt
 have hbRlt := hR.blk.lt
 have hpl : s.ps.length = 12 := hdi.inv.len
 have hrl := hdv.rlen
 have hra := hdv.all
 have hF0 : ∀ q, F q → F q ∨ w.heap.size ≤ q := fun _ h => .inl h
 have hGlt := DLd.lt hl
 have hllt := hGlt _ (DLd.at_ hl)
 have hGo : ∀ q, G q → q ≠ y ∧ q ≠ bP ∧ q ≠ bR := fun q hq => ⟨fun e => hdis q (e ▸ hdv.own.1) hq, fun e => hdis q (e ▸ hdv.own.2.1) hq, fun e => hdis q (e ▸ hdv.own.2.2) hq⟩
 have hGr : ∀ q, G q → G q ∨ w.heap.size ≤ q := fun _ h => .inl h
 have hK0 : Keep (fun q => F q ∨ G q) w w := Keep.refl _ _
 refine eV ?_
 refine Vr <| On 1 [0, 1, 2, 3, 4, 5, 6] <| Oe <| V_seq <| Vr <| On 1 [0, 1, 2, 3, 4, 5, 6, 17] <| Kq (is6_spec who _) <| Os 4 [(0, pt y),(1, pt l),(2, nt who),(3, nt t),(4, nt to),(5, nt level),(6, nt n),(20, .bool (!(isA who)))] ?_
 cases hg4 : (!(isA who))
 ·
  obtain ⟨a5, rfl, hal5⟩ : ∃ j : Nat, who = j ∧ j < 10 := by have h9 : isA who = true := (by simpa using hg4); simp only [isA, decide_eq_true_eq] at h9; exact ⟨who.toNat, by omega, by omega⟩
  refine OI_eq [(0, pt y),(1, pt l),(2, nt (a5 : Int)),(3, nt t),(4, nt to),(5, nt level),(6, nt n),(20, .bool false)] (by first | rfl | rw [hg4]) <| On 5 [0, 1, 2, 3, 4, 5, 6, 20, 21] <| Kq (is6_spec to _) <| Os 9 [(0, pt y),(1, pt l),(2, nt (a5 : Int)),(3, nt t),(4, nt to),(5, nt level),(6, nt n),(25, .bool (!(isA to)))] ?_
  cases hg9 : (!(isA to))
  ·
   obtain ⟨a10, rfl, hal10⟩ : ∃ j : Nat, to = j ∧ j < 10 := by have h9 : isA to = true := (by simpa using hg9); simp only [isA, decide_eq_true_eq] at h9; exact ⟨to.toNat, by omega, by omega⟩
   refine OI_eq [(0, pt y),(1, pt l),(2, nt (a5 : Int)),(3, nt t),(4, nt (a10 : Int)),(5, nt level),(6, nt n),(25, .bool false)] (by first | rfl | rw [hg9]) <| On 14 [0, 1, 2, 3, 4, 5, 6, 30] ?_
   by_cases hg11 : (a5 : Int) = (a10 : Int)
   ·
    refine Dt 30 hg11 <| Oen [0, 1, 2, 3, 4, 5, 6, 50] <| Vo <| Vs [(14, nt 1)] <| Rt ?_
    have hE : delE xs s (a5 : Int) t (a10 : Int) level n = 1 := by unfold delE; rw [if_pos (by omega)]
    exact X_return _ rfl ⟨by rw [hE], ⟨F, G, by rw [show delS xs s (a5 : Int) t (a10 : Int) level n = s from by unfold delS; rw [hE]; rfl]; exact ⟨hdi, (ltm hFlt), _, _, _, _, _, _, _, ⟨hy, ⟨_, _, hP⟩, ⟨_, _, hR⟩, hdv.ne, hdv.own, hdv.rlen, hra⟩⟩, by rw [show delC2 xs cs s (a5 : Int) t (a10 : Int) level n = cs from by unfold delC2; rw [hE]; rfl]; exact hl, hF0, hGr, hdis⟩, hK0⟩
   refine Df 30 hg11 <| On 15 [0, 1, 2, 3, 4, 5, 6, 30, 31] <| Kq (dtrack_spec t _) <| Os 19 [(0, pt y),(1, pt l),(2, nt (a5 : Int)),(3, nt t),(4, nt (a10 : Int)),(5, nt level),(6, nt n),(35, .bool (!(decide (0 ≤ t ∧ t < 4))))] ?_
   cases hg15 : (!(decide (0 ≤ t ∧ t < 4)))
   ·
    have htkt : (0 ≤ t ∧ t < 4) := by have h9 := hg15; simp at h9; omega
    obtain ⟨t0, rfl, htl0⟩ : ∃ j : Nat, t = j ∧ j < 4 := ⟨t.toNat, by omega, by omega⟩
    refine OI_eq [(0, pt y),(1, pt l),(2, nt (a5 : Int)),(3, nt (t0 : Int)),(4, nt (a10 : Int)),(5, nt level),(6, nt n),(35, .bool false)] (by first | rfl | rw [hg15]) <| On 23 [0, 1, 2, 3, 4, 5, 6, 39] ?_
    by_cases hg16 : level < 0
    ·
     refine Dt 39 hg16 <| Oen [0, 1, 2, 3, 4, 5, 6, 50] <| Vo <| Vs [(14, nt 1)] <| Rt ?_
     have hE : delE xs s (a5 : Int) (t0 : Int) (a10 : Int) level n = 1 := by unfold delE; rw [if_pos (by omega)]
     exact X_return _ rfl ⟨by rw [hE], ⟨F, G, by rw [show delS xs s (a5 : Int) (t0 : Int) (a10 : Int) level n = s from by unfold delS; rw [hE]; rfl]; exact ⟨hdi, (ltm hFlt), _, _, _, _, _, _, _, ⟨hy, ⟨_, _, hP⟩, ⟨_, _, hR⟩, hdv.ne, hdv.own, hdv.rlen, hra⟩⟩, by rw [show delC2 xs cs s (a5 : Int) (t0 : Int) (a10 : Int) level n = cs from by unfold delC2; rw [hE]; rfl]; exact hl, hF0, hGr, hdis⟩, hK0⟩
    refine Df 39 hg16 <| On 27 [0, 1, 2, 3, 4, 5, 6, 43] ?_
    by_cases hg17 : level > 6
    ·
     refine Dt 43 hg17 <| Oen [0, 1, 2, 3, 4, 5, 6, 50] <| Vo <| Vs [(14, nt 1)] <| Rt ?_
     have hE : delE xs s (a5 : Int) (t0 : Int) (a10 : Int) level n = 1 := by unfold delE; rw [if_pos (by omega)]
     exact X_return _ rfl ⟨by rw [hE], ⟨F, G, by rw [show delS xs s (a5 : Int) (t0 : Int) (a10 : Int) level n = s from by unfold delS; rw [hE]; rfl]; exact ⟨hdi, (ltm hFlt), _, _, _, _, _, _, _, ⟨hy, ⟨_, _, hP⟩, ⟨_, _, hR⟩, hdv.ne, hdv.own, hdv.rlen, hra⟩⟩, by rw [show delC2 xs cs s (a5 : Int) (t0 : Int) (a10 : Int) level n = cs from by unfold delC2; rw [hE]; rfl]; exact hl, hF0, hGr, hdis⟩, hK0⟩
    refine Df 43 hg17 <| On 31 [0, 1, 2, 3, 4, 5, 6, 47] ?_
    by_cases hg18 : n < 0
    ·
     refine Dt 47 hg18 <| Oen [0, 1, 2, 3, 4, 5, 6, 50] <| Vo <| Vs [(14, nt 1)] <| Rt ?_
     have hE : delE xs s (a5 : Int) (t0 : Int) (a10 : Int) level n = 1 := by unfold delE; rw [if_pos (by omega)]
     exact X_return _ rfl ⟨by rw [hE], ⟨F, G, by rw [show delS xs s (a5 : Int) (t0 : Int) (a10 : Int) level n = s from by unfold delS; rw [hE]; rfl]; exact ⟨hdi, (ltm hFlt), _, _, _, _, _, _, _, ⟨hy, ⟨_, _, hP⟩, ⟨_, _, hR⟩, hdv.ne, hdv.own, hdv.rlen, hra⟩⟩, by rw [show delC2 xs cs s (a5 : Int) (t0 : Int) (a10 : Int) level n = cs from by unfold delC2; rw [hE]; rfl]; exact hl, hF0, hGr, hdis⟩, hK0⟩
    refine Df 47 hg18 <| Oen [0, 1, 2, 3, 4, 5, 6, 50] <| Vi (n > 1073741824) (fun hc19 => ?_) (fun hc19 => ?_)
    ·
     refine Vs [(14, nt 1)] <| Rt ?_
     have hE : delE xs s (a5 : Int) (t0 : Int) (a10 : Int) level n = 1 := by unfold delE; rw [if_pos (by omega)]
     exact X_return _ rfl ⟨by rw [hE], ⟨F, G, by rw [show delS xs s (a5 : Int) (t0 : Int) (a10 : Int) level n = s from by unfold delS; rw [hE]; rfl]; exact ⟨hdi, (ltm hFlt), _, _, _, _, _, _, _, ⟨hy, ⟨_, _, hP⟩, ⟨_, _, hR⟩, hdv.ne, hdv.own, hdv.rlen, hra⟩⟩, by rw [show delC2 xs cs s (a5 : Int) (t0 : Int) (a10 : Int) level n = cs from by unfold delC2; rw [hE]; rfl]; exact hl, hF0, hGr, hdis⟩, hK0⟩
    refine Vsk <| Vr <| On 3 [0, 1, 2, 3, 4, 5, 6, 51, 52, 53] <| Ok (kl 103 #[(.tmp 51),(.tmp 52),(.tmp 53)] #[33, 3, 3]) 103 #[pt y, nt (a5 : Int), nt (t0 : Int)] (some 54) (dat_spec y bR oR cR a5 t0 _ _ hy (by omega) (by omega)) ?_
    rintro _ w ⟨rfl, rfl⟩
    refine ⟨_, rfl, ?_⟩
    refine On 5 [0, 1, 2, 3, 4, 5, 6, 15] <| Oe <| V_seq <| V_block <| Vr <| On 3 [0, 1, 2, 3, 4, 5, 6, 15, 58] ?_
    obtain ⟨x23, hx24⟩ := exAt (xs := rs) (i := a5 * 4 + t0)
    obtain ⟨A25, c25, rfl, hsk25, hok25⟩ := RAll.get hra hx24
    rw [vrJ_at s a5 t0 (by omega)] at hsk25
    rw [vrJ_at s a5 t0 (by omega), rcJ_at s a5 t0 (by omega)] at hx24
    have hsw25 : ∀ q, inA A25 q → q ≠ y ∧ q ≠ bP ∧ q ≠ bR ∧ q < w.heap.size := fun q hq => ⟨(hok25 q hq).2.1, (hok25 q hq).2.2.1, (hok25 q hq).2.2.2, hFlt q (hok25 q hq).1⟩
    have hsx25 := SlT.lt hsk25
    have hcp25 := SlT.cap_le hsk25
    refine Lc (oR + (a5 * 4 + t0) * 9 + 1) (.bool ((s.rc (a5 : Int) (t0 : Int)).d.isSome)) hR.blk (At.cell hR (es_at hx24) rfl) <| Oen [0, 1, 2, 3, 4, 5, 6, 15, 55] <| Vb ((s.rc (a5 : Int) (t0 : Int)).d.isSome) (fun hc26 => ?_) (fun hc26 => ?_)
    ·
     refine Vs [(14, nt 5)] <| V_ret <| X_ret_block <| X_ret_then ?_
     have hE : delE xs s (a5 : Int) (t0 : Int) (a10 : Int) level n = 5 := by unfold delE; rw [if_neg (by omega)]; rw [if_pos (by simpa using hc26)]
     exact X_return _ rfl ⟨by rw [hE], ⟨F, G, by rw [show delS xs s (a5 : Int) (t0 : Int) (a10 : Int) level n = s from by unfold delS; rw [hE]; rfl]; exact ⟨hdi, (ltm hFlt), _, _, _, _, _, _, _, ⟨hy, ⟨_, _, hP⟩, ⟨_, _, hR⟩, hdv.ne, hdv.own, hdv.rlen, hra⟩⟩, by rw [show delC2 xs cs s (a5 : Int) (t0 : Int) (a10 : Int) level n = cs from by unfold delC2; rw [hE]; rfl]; exact hl, hF0, hGr, hdis⟩, hK0⟩
    refine Vr <| On 3 [0, 1, 2, 3, 4, 5, 6, 15, 63] <| Lc (oR + (a5 * 4 + t0) * 9) (.slice A25 ((vrow s (a5 : Int) (t0 : Int)).length) c25) hR.blk (At.cell0 hR (es_at hx24) rfl) <| Oen [0, 1, 2, 3, 4, 5, 6, 15, 60] <| Vi ((((vrow s (a5 : Int) (t0 : Int)).length : Nat) : Int) > 0) (fun hc27 => ?_) (fun hc27 => ?_)
    ·
     refine Vs [(14, nt 9)] <| V_ret <| X_ret_block <| X_ret_then ?_
     have hE : delE xs s (a5 : Int) (t0 : Int) (a10 : Int) level n = 9 := by unfold delE; rw [if_neg (by omega)]; rw [if_neg (by simpa using hc26)]; rw [if_pos hc27]
     exact X_return _ rfl ⟨by rw [hE], ⟨F, G, by rw [show delS xs s (a5 : Int) (t0 : Int) (a10 : Int) level n = s from by unfold delS; rw [hE]; rfl]; exact ⟨hdi, (ltm hFlt), _, _, _, _, _, _, _, ⟨hy, ⟨_, _, hP⟩, ⟨_, _, hR⟩, hdv.ne, hdv.own, hdv.rlen, hra⟩⟩, by rw [show delC2 xs cs s (a5 : Int) (t0 : Int) (a10 : Int) level n = cs from by unfold delC2; rw [hE]; rfl]; exact hl, hF0, hGr, hdis⟩, hK0⟩
    refine Vr <| On 3 [0, 1, 2, 3, 4, 5, 6, 15, 68, 69, 70] <| Kk (free6_spec G l xs cs (a5 : Int) _ hl) fun w28 hk29 _ => ?_
    replace hy := hy.k0 hk29
    replace hP := hP.k0 hk29
    replace hR := hR.k0 hk29
    replace hsk25 := hsk25.keep0 hk29
    replace hra := RAll.keep hra hk29 (fun _ _ _ _ _ f => f)
    replace hl := DLd.keep hl hk29 nk
    replace hK0 := hK0.tn hk29
    refine Oen [0, 1, 2, 3, 4, 5, 6, 15, 67] <| Vi (n > (acct xs (a5 : Int)).free) (fun hc31 => ?_) (fun hc31 => ?_)
    ·
     refine Vs [(14, nt 6)] <| V_ret <| X_ret_block <| X_ret_then ?_
     have hE : delE xs s (a5 : Int) (t0 : Int) (a10 : Int) level n = 6 := by unfold delE; rw [if_neg (by omega)]; rw [if_neg (by simpa using hc26)]; rw [if_neg hc27]; rw [if_pos hc31]
     exact X_return _ rfl ⟨by rw [hE], ⟨F, G, by rw [show delS xs s (a5 : Int) (t0 : Int) (a10 : Int) level n = s from by unfold delS; rw [hE]; rfl]; exact ⟨hdi, (ltm hFlt), _, _, _, _, _, _, _, ⟨hy, ⟨_, _, hP⟩, ⟨_, _, hR⟩, hdv.ne, hdv.own, hdv.rlen, hra⟩⟩, by rw [show delC2 xs cs s (a5 : Int) (t0 : Int) (a10 : Int) level n = cs from by unfold delC2; rw [hE]; rfl]; exact hl, hF0, hGr, hdis⟩, hK0⟩
    refine V_skip <| X_block <| X_then <| Vr <| On 9 [0, 1, 2, 3, 4, 5, 6, 74, 75, 76, 77, 78, 79, 81] <| Ts1 (DR.mk A25 c25 (vrow s (a5 : Int) (t0 : Int)) true (dTo (s.rc (a5 : Int) (t0 : Int))) (dLv (s.rc (a5 : Int) (t0 : Int))) (dN (s.rc (a5 : Int) (t0 : Int))) ((s.rc (a5 : Int) (t0 : Int)).got.v) ((s.rc (a5 : Int) (t0 : Int)).got.c) ((s.rc (a5 : Int) (t0 : Int)).till) ((s.rc (a5 : Int) (t0 : Int)).n) : DR) 1 (.bool true) hR hx24 rfl ?_
    intro w32 hat36 hk34 hz35 hlhx37 hx37
    have hsz38 := Keep.size hk34
    replace hy := hy.k1 hk34
    replace hP := hP.k1 hk34
    replace hsk25 := hsk25.keep hk34 (fun q hq hs => by have hs : q = bR := hs; have g0 := hsw25 q hq; have g1 := hsx25 q hq; omega)
    replace hra := RAll.keep hra hk34 (fun _ _ _ _ h hs => h hs)
    replace hl := DLd.keep hl hk34 (fun q hq hs => by have hs : q = bR := hs; have g0 := hGo q hq; have g1 := hGlt q hq; omega)
    replace hK0 := fro hK0 hk34 (.inl hdv.own.2.2)
    refine On 12 [0, 1, 2, 3, 4, 5, 6, 75, 76, 77, 78, 79, 83] <| Tss1 (DR.mk A25 c25 (vrow s (a5 : Int) (t0 : Int)) true (a10 : Int) (dLv (s.rc (a5 : Int) (t0 : Int))) (dN (s.rc (a5 : Int) (t0 : Int))) ((s.rc (a5 : Int) (t0 : Int)).got.v) ((s.rc (a5 : Int) (t0 : Int)).got.c) ((s.rc (a5 : Int) (t0 : Int)).till) ((s.rc (a5 : Int) (t0 : Int)).n) : DR) 2 (nt (a10 : Int)) hat36 hx37 rfl ?_
    intro w39 hat43 hk41 hz42 hlhx44 hx44
    have hsz45 := Keep.size hk41
    replace hy := hy.k1 hk41
    replace hP := hP.k1 hk41
    replace hsk25 := hsk25.keep hk41 (fun q hq hs => by have hs : q = bR := hs; have g0 := hsw25 q hq; have g1 := hsx25 q hq; omega)
    replace hra := RAll.keep hra hk41 (fun _ _ _ _ h hs => h hs)
    replace hl := DLd.keep hl hk41 (fun q hq hs => by have hs : q = bR := hs; have g0 := hGo q hq; have g1 := hGlt q hq; omega)
    replace hK0 := fro hK0 hk41 (.inl hdv.own.2.2)
    refine On 15 [0, 1, 2, 3, 4, 5, 6, 76, 78, 79, 85] <| Tss1 (DR.mk A25 c25 (vrow s (a5 : Int) (t0 : Int)) true (a10 : Int) level (dN (s.rc (a5 : Int) (t0 : Int))) ((s.rc (a5 : Int) (t0 : Int)).got.v) ((s.rc (a5 : Int) (t0 : Int)).got.c) ((s.rc (a5 : Int) (t0 : Int)).till) ((s.rc (a5 : Int) (t0 : Int)).n) : DR) 3 (nt level) hat43 hx44 rfl ?_
    intro w46 hat50 hk48 hz49 hlhx51 hx51
    have hsz52 := Keep.size hk48
    replace hy := hy.k1 hk48
    replace hP := hP.k1 hk48
    replace hsk25 := hsk25.keep hk48 (fun q hq hs => by have hs : q = bR := hs; have g0 := hsw25 q hq; have g1 := hsx25 q hq; omega)
    replace hra := RAll.keep hra hk48 (fun _ _ _ _ h hs => h hs)
    replace hl := DLd.keep hl hk48 (fun q hq hs => by have hs : q = bR := hs; have g0 := hGo q hq; have g1 := hGlt q hq; omega)
    replace hK0 := fro hK0 hk48 (.inl hdv.own.2.2)
    refine On 18 [0, 1, 2, 3, 4, 5, 6, 79, 87] <| Tss1 (DR.mk A25 c25 (vrow s (a5 : Int) (t0 : Int)) true (a10 : Int) level n ((s.rc (a5 : Int) (t0 : Int)).got.v) ((s.rc (a5 : Int) (t0 : Int)).got.c) ((s.rc (a5 : Int) (t0 : Int)).till) ((s.rc (a5 : Int) (t0 : Int)).n) : DR) 4 (nt n) hat50 hx51 rfl ?_
    intro w53 hat57 hk55 hz56 hlhx58 hx58
    have hsz59 := Keep.size hk55
    replace hy := hy.k1 hk55
    replace hP := hP.k1 hk55
    replace hsk25 := hsk25.keep hk55 (fun q hq hs => by have hs : q = bR := hs; have g0 := hsw25 q hq; have g1 := hsx25 q hq; omega)
    replace hra := RAll.keep hra hk55 (fun _ _ _ _ h hs => h hs)
    replace hl := DLd.keep hl hk55 (fun q hq hs => by have hs : q = bR := hs; have g0 := hGo q hq; have g1 := hGlt q hq; omega)
    replace hK0 := fro hK0 hk55 (.inl hdv.own.2.2)
    refine Oer <| On 3 [0, 1, 2, 3, 4, 5, 6, 88, 89, 90] ?_
    have hra1 := RAll.set (F' := F) (j := a5 * 4 + t0) (s' := (s.setR (a5 : Int) (t0 : Int) (RecS.mk (some (DelS.mk (a10 : Int) level n)) (s.rc (a5 : Int) (t0 : Int)).got (s.rc (a5 : Int) (t0 : Int)).till (s.rc (a5 : Int) (t0 : Int)).n))) hra (fun q h => h) A25 c25 (by rw [vrJ_at _ _ _ (by omega)]; exact hsk25) hok25 (fun i hi _ => ⟨rfl, by show updR _ _ _ _ _ _ = _; unfold updR; rw [if_neg (fun h => rc_other hi ⟨h.1, h.2.symm⟩)]; rfl⟩) (e := (DR.mk A25 c25 (vrow s (a5 : Int) (t0 : Int)) true (a10 : Int) level n ((s.rc (a5 : Int) (t0 : Int)).got.v) ((s.rc (a5 : Int) (t0 : Int)).got.c) ((s.rc (a5 : Int) (t0 : Int)).till) ((s.rc (a5 : Int) (t0 : Int)).n))) (by rw [vrJ_at _ _ _ (by omega), rcJ_at _ _ _ (by omega)]; show _ = DR.of _ _ _ (updR _ _ _ _ _ _); unfold updR; rw [if_pos ⟨rfl, rfl⟩]; rfl)
    have hrl1 : (rs.set (a5 * 4 + t0) (DR.mk A25 c25 (vrow s (a5 : Int) (t0 : Int)) true (a10 : Int) level n ((s.rc (a5 : Int) (t0 : Int)).got.v) ((s.rc (a5 : Int) (t0 : Int)).got.c) ((s.rc (a5 : Int) (t0 : Int)).till) ((s.rc (a5 : Int) (t0 : Int)).n))).length = 40 := by simp only [List.length_set]; exact hdv.rlen
    have hR1 := hat57
    generalize hrs1 : rs.set (a5 * 4 + t0) (DR.mk A25 c25 (vrow s (a5 : Int) (t0 : Int)) true (a10 : Int) level n ((s.rc (a5 : Int) (t0 : Int)).got.v) ((s.rc (a5 : Int) (t0 : Int)).got.c) ((s.rc (a5 : Int) (t0 : Int)).till) ((s.rc (a5 : Int) (t0 : Int)).n)) = rs1 at hra1
    rw [hrs1] at hR1
    replace hrl1 : rs1.length = 40 := by rw [← hrs1, List.length_set]; exact hdv.rlen
    refine Ok (kl 103 #[(.tmp 88),(.tmp 89),(.tmp 90)] #[33, 3, 3]) 103 #[pt y, nt (a10 : Int), nt (t0 : Int)] (some 91) (dat_spec y bR oR cR a10 t0 _ _ hy (by omega) (by omega)) ?_
    rintro _ w53 ⟨rfl, rfl⟩
    refine ⟨_, rfl, ?_⟩
    refine On 6 [0, 1, 2, 3, 4, 5, 6, 93] ?_
    obtain ⟨x63, hx64⟩ := exAt (xs := rs1) (i := a10 * 4 + t0)
    obtain ⟨A65, c65, rfl, hsk65, hok65⟩ := RAll.get hra1 hx64
    rw [vrJ_at (s.setR (a5 : Int) (t0 : Int) (RecS.mk (some (DelS.mk (a10 : Int) level n)) (s.rc (a5 : Int) (t0 : Int)).got (s.rc (a5 : Int) (t0 : Int)).till (s.rc (a5 : Int) (t0 : Int)).n)) a10 t0 (by omega)] at hsk65
    rw [vrJ_at (s.setR (a5 : Int) (t0 : Int) (RecS.mk (some (DelS.mk (a10 : Int) level n)) (s.rc (a5 : Int) (t0 : Int)).got (s.rc (a5 : Int) (t0 : Int)).till (s.rc (a5 : Int) (t0 : Int)).n)) a10 t0 (by omega), rcJ_at (s.setR (a5 : Int) (t0 : Int) (RecS.mk (some (DelS.mk (a10 : Int) level n)) (s.rc (a5 : Int) (t0 : Int)).got (s.rc (a5 : Int) (t0 : Int)).till (s.rc (a5 : Int) (t0 : Int)).n)) a10 t0 (by omega)] at hx64
    have hsw65 : ∀ q, inA A65 q → q ≠ y ∧ q ≠ bP ∧ q ≠ bR ∧ q < w.heap.size := fun q hq => ⟨(hok65 q hq).2.1, (hok65 q hq).2.2.1, (hok65 q hq).2.2.2, hFlt q (hok65 q hq).1⟩
    have hsx65 := SlT.lt hsk65
    have hcp65 := SlT.cap_le hsk65
    refine La (oR + (a10 * 4 + t0) * 9 + 5) (Wgt.cells (((s.setR (a5 : Int) (t0 : Int) (RecS.mk (some (DelS.mk (a10 : Int) level n)) (s.rc (a5 : Int) (t0 : Int)).got (s.rc (a5 : Int) (t0 : Int)).till (s.rc (a5 : Int) (t0 : Int)).n)).rc (a10 : Int) (t0 : Int)).got)) 2 hR1.blk (At.sub hR1 (es_at hx64) (by decide) rfl) (Wgt.len _) <| Alc_ 54 (.agg #[nt 0, nt 0]) [nt 0, nt 0] ?_
    intro b66 w66 e66 hb66 k66 z66
    have hsz67 := Keep.size k66
    replace hy := hy.k0 k66
    replace hP := hP.k0 k66
    replace hR1 := hR1.k0 k66
    replace hl := DLd.keep hl k66 nk
    replace hK0 := hK0.tn k66
    replace hra1 := RAll.keep hra1 k66 (fun _ _ _ _ _ f => f)
    have hb66lt := hb66.lt
    refine Sg 0 (Wgt.cells (((s.setR (a5 : Int) (t0 : Int) (RecS.mk (some (DelS.mk (a10 : Int) level n)) (s.rc (a5 : Int) (t0 : Int)).got (s.rc (a5 : Int) (t0 : Int)).till (s.rc (a5 : Int) (t0 : Int)).n)).rc (a10 : Int) (t0 : Int)).got)) hb66 (Wgt.len _) (Wgt.one _) ?_
    intro w68 hb66_71 hk69 hz70
    replace hb66_71 : Blk w68 b66 (Wgt.cells (((s.setR (a5 : Int) (t0 : Int) (RecS.mk (some (DelS.mk (a10 : Int) level n)) (s.rc (a5 : Int) (t0 : Int)).got (s.rc (a5 : Int) (t0 : Int)).till (s.rc (a5 : Int) (t0 : Int)).n)).rc (a10 : Int) (t0 : Int)).got)) 54 := (by rwa [over_whole (by rw [Wgt.len]; rfl)] at hb66_71)
    have hsz72 := Keep.size hk69
    replace hy := hy.k1 hk69
    replace hP := hP.k1 hk69
    replace hR1 := hR1.k1 hk69
    replace hl := DLd.keep hl hk69 (fun q hq hs => by have hs : q = b66 := hs; have g0 := hGo q hq; have g1 := hGlt q hq; omega)
    replace hK0 := frn hK0 hk69
    replace hra1 := RAll.keep hra1 hk69 (fun q h1 h2 h3 h4 hs => by have hs : q = b66 := hs; first | exact h2 hs | exact h3 hs | exact h4 hs | (have h5 := hFlt q h1; omega))
    refine Oe <| V_seq <| Vd1 (acts [7, 14]) none_ [5, 6, 7, 0, 1, 2, 3, 4, 8, 9, 10, 11, 12, 13, 14] fun w74 hk73 he75 K78 _ => ?_
    replace hy := hy.k0 hk73
    replace hb66_71 := hb66_71.k0 hk73
    replace hP := hP.k0 hk73
    replace hR1 := hR1.k0 hk73
    replace hl := DLd.keep hl hk73 nk
    replace hK0 := hK0.tn hk73
    replace hra1 := RAll.keep hra1 hk73 (fun _ _ _ _ _ f => f)
    have qhb66_71 := hb66_71
    refine Gn [7, 0, 1, 2, 3, 4, 8, 9, 10, 11, 12, 13, 14] [0, 1, 2, 3, 4, 6, 16, 100, 101] <| Hq K78 (rVotes_spec n level _) <| Gn [4, 8, 9, 10, 11, 12, 13, 14] [1, 2, 3, 6, 16, 95, 96, 97, 98, 102] <| Mr 0 (nt ((((s.setR (a5 : Int) (t0 : Int) (RecS.mk (some (DelS.mk (a10 : Int) level n)) (s.rc (a5 : Int) (t0 : Int)).got (s.rc (a5 : Int) (t0 : Int)).till (s.rc (a5 : Int) (t0 : Int)).n)).rc (a10 : Int) (t0 : Int)).got).v)) qhb66_71 <| Gn [10, 11, 12, 13, 14] [1, 2, 3, 6, 95, 96, 97, 103, 104] <| Mr 1 (nt ((((s.setR (a5 : Int) (t0 : Int) (RecS.mk (some (DelS.mk (a10 : Int) level n)) (s.rc (a5 : Int) (t0 : Int)).got (s.rc (a5 : Int) (t0 : Int)).till (s.rc (a5 : Int) (t0 : Int)).n)).rc (a10 : Int) (t0 : Int)).got).c)) qhb66_71 <| Gn [14] [1, 2, 3, 6, 95, 96, 97, 108] <| GI_final 14 (by kernel_rfl) (by kernel_rfl) ?_
    have hD1 : DInv (s.setR (a5 : Int) (t0 : Int) (RecS.mk (some (DelS.mk (a10 : Int) level n)) (s.rc (a5 : Int) (t0 : Int)).got (s.rc (a5 : Int) (t0 : Int)).till (s.rc (a5 : Int) (t0 : Int)).n)) := hdi.setR_ _ _ (by intro d hd; cases hd; exact ⟨by show 0 ≤ (a10 : Int) ∧ (a10 : Int) < 10; omega, by show 0 ≤ level ∧ level ≤ 6; omega, by show 0 ≤ n ∧ n ≤ 1073741824; omega⟩)
    have hFl2 : ∀ q, F q → q < w74.heap.size := ltm hFlt
    have hdx2 : DvX F w74 y bP oP cP bR oR cR _ (s.setR (a5 : Int) (t0 : Int) (RecS.mk (some (DelS.mk (a10 : Int) level n)) (s.rc (a5 : Int) (t0 : Int)).got (s.rc (a5 : Int) (t0 : Int)).till (s.rc (a5 : Int) (t0 : Int)).n)) := ⟨hy, ⟨_, _, hP⟩, ⟨_, _, hR1⟩, hdv.ne, hdv.own, hrl1, hra1⟩
    refine Ok (kl 109 #[(.tmp 95),(.tmp 96),(.tmp 97),(.tmp 108)] #[33, 3, 3, 54]) 109 #[pt y, nt (a10 : Int), nt (t0 : Int), .agg #[nt (i64.wrap (((((s.setR (a5 : Int) (t0 : Int) (RecS.mk (some (DelS.mk (a10 : Int) level n)) (s.rc (a5 : Int) (t0 : Int)).got (s.rc (a5 : Int) (t0 : Int)).till (s.rc (a5 : Int) (t0 : Int)).n)).rc (a10 : Int) (t0 : Int)).got).v) + (cvVotes n level))), nt (i64.wrap (((((s.setR (a5 : Int) (t0 : Int) (RecS.mk (some (DelS.mk (a10 : Int) level n)) (s.rc (a5 : Int) (t0 : Int)).got (s.rc (a5 : Int) (t0 : Int)).till (s.rc (a5 : Int) (t0 : Int)).n)).rc (a10 : Int) (t0 : Int)).got).c) + n))]] (some 109) (dgot_at F y (s.setR (a5 : Int) (t0 : Int) (RecS.mk (some (DelS.mk (a10 : Int) level n)) (s.rc (a5 : Int) (t0 : Int)).got (s.rc (a5 : Int) (t0 : Int)).till (s.rc (a5 : Int) (t0 : Int)).n)) bP oP cP bR oR cR _ a10 t0 (Wgt.mk (i64.wrap (((((s.setR (a5 : Int) (t0 : Int) (RecS.mk (some (DelS.mk (a10 : Int) level n)) (s.rc (a5 : Int) (t0 : Int)).got (s.rc (a5 : Int) (t0 : Int)).till (s.rc (a5 : Int) (t0 : Int)).n)).rc (a10 : Int) (t0 : Int)).got).v) + (cvVotes n level))) (i64.wrap (((((s.setR (a5 : Int) (t0 : Int) (RecS.mk (some (DelS.mk (a10 : Int) level n)) (s.rc (a5 : Int) (t0 : Int)).got (s.rc (a5 : Int) (t0 : Int)).till (s.rc (a5 : Int) (t0 : Int)).n)).rc (a10 : Int) (t0 : Int)).got).c) + n))) _ hD1 hFl2 hdx2 (by omega) (by omega)) ?_
    rintro _ w80 ⟨rfl, ⟨rs2, hdv2⟩, hk81⟩
    refine ⟨_, rfl, ?_⟩
    have hsz82 := Keep.size hk81
    replace hl := DLd.keep hl hk81 (fun q hq hs => (fun q h1 h2 => hdis q h1 h2) q hs hq)
    replace hK0 := Keep.fresh hK0 hk81 (fun i hi hs => Or.inl hs)
    obtain ⟨LP2, TP2, hP2⟩ := hdv2.pl
    obtain ⟨LR2, TR2, hR2⟩ := hdv2.rl
    have hy2 := hdv2.blk
    have hra2 := hdv2.all
    have hrl2 := hdv2.rlen
    refine Oer <| On 4 [110, 111, 112, 113] <| Kg (raise6_spec G l xs cs (a5 : Int) (t0 : Int) n _ hl hmax) ?_
    rintro _ w85 ⟨rfl, ⟨F87, ho88, hfr89⟩, hk86⟩
    refine ⟨_, rfl, ?_⟩
    have hsz90 := Keep.size hk86
    replace hy2 := hy2.keep hk86 (fun hs => by have h1 := hGo _ hs; have h2 := hGlt _ hs; omega)
    replace hP2 := hP2.keep hk86 (fun hs => by have h1 := hGo _ hs; have h2 := hGlt _ hs; omega)
    replace hR2 := hR2.keep hk86 (fun hs => by have h1 := hGo _ hs; have h2 := hGlt _ hs; omega)
    replace hK0 := frR hK0 hk86 hGr
    replace hra2 := RAll.keep hra2 hk86 (fun q h1 _ _ _ hs => hdis q h1 hs)
    have own92 : ∀ q, F87 q → q ≠ y ∧ q ≠ bP ∧ q ≠ bR ∧ q ≠ b66 ∧ q ≠ y := fun q hq => by rcases hfr89 q hq with h | h; (have h1 := hGo q h; have h2 := hGlt q h; omega); omega
    have lt91 := DLd.lt ho88
    have rel93 : ∀ q, F87 q → G q ∨ w.heap.size ≤ q := fun q hq => by rcases hfr89 q hq with h | h; exact hGr q h; exact .inr (by omega)
    refine Oer <| Ose [(14, nt 0)] <| V_ret ?_
    have hE : delE xs s (a5 : Int) (t0 : Int) (a10 : Int) level n = 0 := by unfold delE; rw [if_neg (by omega)]; rw [if_neg (by simpa using hc26)]; rw [if_neg hc27]; rw [if_neg hc31]
    have hS : delS xs s (a5 : Int) (t0 : Int) (a10 : Int) level n = (gotS (s.setR (a5 : Int) (t0 : Int) (RecS.mk (some (DelS.mk (a10 : Int) level n)) (s.rc (a5 : Int) (t0 : Int)).got (s.rc (a5 : Int) (t0 : Int)).till (s.rc (a5 : Int) (t0 : Int)).n)) (a10 : Int) (t0 : Int) (Wgt.mk (i64.wrap (((((s.setR (a5 : Int) (t0 : Int) (RecS.mk (some (DelS.mk (a10 : Int) level n)) (s.rc (a5 : Int) (t0 : Int)).got (s.rc (a5 : Int) (t0 : Int)).till (s.rc (a5 : Int) (t0 : Int)).n)).rc (a10 : Int) (t0 : Int)).got).v) + (cvVotes n level))) (i64.wrap (((((s.setR (a5 : Int) (t0 : Int) (RecS.mk (some (DelS.mk (a10 : Int) level n)) (s.rc (a5 : Int) (t0 : Int)).got (s.rc (a5 : Int) (t0 : Int)).till (s.rc (a5 : Int) (t0 : Int)).n)).rc (a10 : Int) (t0 : Int)).got).c) + n)))) := by unfold delS; rw [if_pos hE]; rfl
    have hC : delC2 xs cs s (a5 : Int) (t0 : Int) (a10 : Int) level n = raiseC cs (a5 : Int) (t0 : Int) n := by unfold delC2; rw [if_pos hE]
    exact X_return _ rfl ⟨by rw [hE], ⟨F, F87, by rw [hS]; exact ⟨hD1.got_ _ _ _, (ltm hFlt), _, _, _, _, _, _, _, hy2, ⟨_, _, hP2⟩, ⟨_, _, hR2⟩, hdv.ne, hdv.own, hrl2, hra2⟩, by rw [hC]; exact ho88, hF0, rel93, fun q h1 h2 => by rcases hfr89 q h2 with h3 | h3; exact hdis q h1 h3; (have h4 := hFlt q h1; omega)⟩, hK0⟩
   have htkt : ¬ (0 ≤ t ∧ t < 4) := by have h9 := hg15; simp at h9; omega
   refine OI_eq [(0, pt y),(1, pt l),(2, nt (a5 : Int)),(3, nt t),(4, nt (a10 : Int)),(5, nt level),(6, nt n),(35, .bool true)] (by first | rfl | rw [hg15]) <| Oen [0, 1, 2, 3, 4, 5, 6, 50] <| Vo <| Vs [(14, nt 1)] <| Rt ?_
   have hE : delE xs s (a5 : Int) t (a10 : Int) level n = 1 := by unfold delE; rw [if_pos (by omega)]
   exact X_return _ rfl ⟨by rw [hE], ⟨F, G, by rw [show delS xs s (a5 : Int) t (a10 : Int) level n = s from by unfold delS; rw [hE]; rfl]; exact ⟨hdi, (ltm hFlt), _, _, _, _, _, _, _, ⟨hy, ⟨_, _, hP⟩, ⟨_, _, hR⟩, hdv.ne, hdv.own, hdv.rlen, hra⟩⟩, by rw [show delC2 xs cs s (a5 : Int) t (a10 : Int) level n = cs from by unfold delC2; rw [hE]; rfl]; exact hl, hF0, hGr, hdis⟩, hK0⟩
  have hiato : ¬ (0 ≤ to ∧ to ≤ 9) := by have h9 : isA to = false := (by simpa using hg9); simp [isA] at h9; omega
  refine OI_eq [(0, pt y),(1, pt l),(2, nt (a5 : Int)),(3, nt t),(4, nt to),(5, nt level),(6, nt n),(25, .bool true)] (by first | rfl | rw [hg9]) <| Oen [0, 1, 2, 3, 4, 5, 6, 50] <| Vo <| Vs [(14, nt 1)] <| Rt ?_
  have hE : delE xs s (a5 : Int) t to level n = 1 := by unfold delE; rw [if_pos (by omega)]
  exact X_return _ rfl ⟨by rw [hE], ⟨F, G, by rw [show delS xs s (a5 : Int) t to level n = s from by unfold delS; rw [hE]; rfl]; exact ⟨hdi, (ltm hFlt), _, _, _, _, _, _, _, ⟨hy, ⟨_, _, hP⟩, ⟨_, _, hR⟩, hdv.ne, hdv.own, hdv.rlen, hra⟩⟩, by rw [show delC2 xs cs s (a5 : Int) t to level n = cs from by unfold delC2; rw [hE]; rfl]; exact hl, hF0, hGr, hdis⟩, hK0⟩
 have hiawho : ¬ (0 ≤ who ∧ who ≤ 9) := by have h9 : isA who = false := (by simpa using hg4); simp [isA] at h9; omega
 refine OI_eq [(0, pt y),(1, pt l),(2, nt who),(3, nt t),(4, nt to),(5, nt level),(6, nt n),(20, .bool true)] (by first | rfl | rw [hg4]) <| Oen [0, 1, 2, 3, 4, 5, 6, 50] <| Vo <| Vs [(14, nt 1)] <| Rt ?_
 have hE : delE xs s who t to level n = 1 := by unfold delE; rw [if_pos (by omega)]
 exact X_return _ rfl ⟨by rw [hE], ⟨F, G, by rw [show delS xs s who t to level n = s from by unfold delS; rw [hE]; rfl]; exact ⟨hdi, (ltm hFlt), _, _, _, _, _, _, _, ⟨hy, ⟨_, _, hP⟩, ⟨_, _, hR⟩, hdv.ne, hdv.own, hdv.rlen, hra⟩⟩, by rw [show delC2 xs cs s who t to level n = cs from by unfold delC2; rw [hE]; rfl]; exact hl, hF0, hGr, hdis⟩, hK0⟩
end Go.Al
