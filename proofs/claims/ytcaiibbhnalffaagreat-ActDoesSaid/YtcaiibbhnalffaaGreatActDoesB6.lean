/-
  Put together out of 13 texts: The document's voting: Open, Close. The document's voting: join, won, Tally. The document's voting: New. The document's refer: what it holds, New. The document's refer: is there one, may it end? The document's refer: Deposit. The document's refer: one ends. The document
-/
import Derived.Test.YtcaiibbhnalffaaGreatActDoesB5
open Go.IntKind (i64)
set_option maxRecDepth 10000
namespace Go.Al
open Go Go.RowKit Go.Proofs
variable {i : Nat} {s : VS}
theorem DInv.setP (h : DInv s) {q : PollS} (hq : 0 ≤ q.track ∧ q.track < 4) (hs : q.state ≠ 1) : DInv (s.setP i q) := by
  have hg : ∀ (k : Nat) (r : PollS), s.ps[k]? = some (some r) → ∃ r', (s.ps.set i (some q))[k]? = some (some r') := fun k r hk => by
    by_cases e : i = k
    · subst e; exact ⟨q, List.getElem?_set_self (List.getElem?_eq_some_iff.1 hk).1⟩
    · exact ⟨r, by rw [List.getElem?_set_ne e]; exact hk⟩
  refine ⟨⟨by show (s.ps.set i (some q)).length = 12; rw [List.length_set]; exact h.inv.len, fun c hc => ?_, h.inv.dels⟩, h.trk.setP hq, fun k r hk => ?_, h.srt⟩
  · obtain ⟨h1, h2, h3, r, h4⟩ := h.inv.votes c hc
    exact ⟨h1, h2, h3, hg _ _ h4⟩
  · have hk : (s.ps.set i (some q))[k]? = some (some r) := hk
    by_cases e : i = k
    · subst e
      have hl : i < (s.ps.set i (some q)).length := (List.getElem?_eq_some_iff.1 hk).1
      rw [List.getElem?_set_self (by rw [List.length_set] at hl; exact hl)] at hk
      simp only [Option.some.injEq] at hk
      subst hk; exact hs
    · rw [List.getElem?_set_ne e] at hk; exact h.st _ _ hk
theorem vrow_new (hi : s.Inv) (h : s.ps[i]? = some none) (q : PollS) (a t : Int) : vrow (s.setP i q) a t = vrow s a t := by
  unfold vrow
  refine List.filter_congr fun c hc => ?_
  obtain ⟨k, hk⟩ := List.getElem?_of_mem hc
  obtain ⟨x, hx, _, hb, _⟩ := rowL_mem hk
  obtain ⟨_, _, _, r, hr⟩ := hi.votes x hx
  have hne : i ≠ c.1.toNat := fun e => by rw [hb, ← e, h] at hr; cases hr
  have : trk (s.setP i q) c.1 = trk s c.1 := by unfold trk VS.setP; simp only []; rw [List.getElem?_set_ne hne]
  rw [this]
theorem vrow_setP {q q' : PollS} (h : s.ps[i]? = some (some q)) (ht : q'.track = q.track) (a t : Int) : vrow (s.setP i q') a t = vrow s a t := vrow_congr (s := s) (s' := s.setP i q') rfl (trk_setP h ht) a t
theorem dopn_spec (F : Nat → Prop) (y : Nat) (s : VS) (ref t : Int) (w : World) (h : DVt F w y s) : Calls Tryz.prog 58 #[pt y, nt ref, nt t] w fun e w' => e = .returned (nt (openE s ref t)) ∧ (∃ F', DVt F' w' y (openS s ref t) ∧ (∀ q, F' q → F q ∨ w.heap.size ≤ q)) ∧ Keep F w w' := by
 obtain ⟨hdi, hFlt, bP, oP, cP, bR, oR, cR, rs, hdv⟩ := h
 obtain ⟨LP, TP, hP⟩ := hdv.pl
 obtain ⟨LR, TR, hR⟩ := hdv.rl
 have hy := hdv.blk
 obtain ⟨hyP, hyR, hPR⟩ := hdv.ne
 have hylt := hy.lt
 have hbPlt := hP.blk.lt
 have hbRlt := hR.blk.lt
 have hpl : s.ps.length = 12 := hdi.inv.len
 have hrl := hdv.rlen
 have hra := hdv.all
 have hF0 : ∀ q, F q → F q ∨ w.heap.size ≤ q := fun _ h => .inl h
 have hK0 := Keep.refl F w
 refine eV ?_
 refine Vr <| On 1 [0, 1, 2] <| Oe <| V_seq <| Vr <| On 3 [0, 1, 2, 9] ?_
 by_cases hg1 : ref < 0
 ·
  refine Dt 9 hg1 <| Oen [0, 1, 2, 17] <| Vo <| Vs [(6, nt 1)] <| Rt ?_
  have hE : openE s ref t = 1 := by unfold openE; rw [if_pos (by omega)]
  exact X_return _ rfl ⟨by rw [hE], ⟨F, by rw [show openS s ref t = s from by unfold openS; rw [hE]; rfl]; exact ⟨hdi, (ltm hFlt), _, _, _, _, _, _, _, ⟨hy, ⟨_, _, hP⟩, ⟨_, _, hR⟩, hdv.ne, hdv.own, hdv.rlen, hra⟩⟩, hF0⟩, hK0⟩
 refine Df 9 hg1 <| Os 7 [(0, pt y),(1, nt ref),(2, nt t),(13, .bool (decide (ref ≥ 12)))] ?_
 by_cases hg2 : ref ≥ 12
 ·
  refine Dt 13 hg2 <| Oen [0, 1, 2, 17] <| Vo <| Vs [(6, nt 1)] <| Rt ?_
  have hE : openE s ref t = 1 := by unfold openE; rw [if_pos (by omega)]
  exact X_return _ rfl ⟨by rw [hE], ⟨F, by rw [show openS s ref t = s from by unfold openS; rw [hE]; rfl]; exact ⟨hdi, (ltm hFlt), _, _, _, _, _, _, _, ⟨hy, ⟨_, _, hP⟩, ⟨_, _, hR⟩, hdv.ne, hdv.own, hdv.rlen, hra⟩⟩, hF0⟩, hK0⟩
 obtain ⟨j3, hj3, hjl3⟩ : ∃ j : Nat, ref = j ∧ j < 12 := ⟨(ref).toNat, by omega, by omega⟩
 refine OI_eq [(0, pt y),(1, nt ref),(2, nt t),(13, .bool false)] (by first | simp [hg2] | rfl) <| On 8 [0, 1, 2, 13, 14] <| Kq (dtrack_spec t _) <| Oen [0, 1, 2, 17] <| Vb (!(decide (0 ≤ t ∧ t < 4))) (fun hc7 => ?_) (fun hc7 => ?_)
 ·
  have htkt : ¬ (0 ≤ t ∧ t < 4) := by have h9 := hc7; simp at h9; omega
  refine Vs [(6, nt 1)] <| Rt ?_
  have hE : openE s ref t = 1 := by unfold openE; rw [if_pos (by omega)]
  exact X_return _ rfl ⟨by rw [hE], ⟨F, by rw [show openS s ref t = s from by unfold openS; rw [hE]; rfl]; exact ⟨hdi, (ltm hFlt), _, _, _, _, _, _, _, ⟨hy, ⟨_, _, hP⟩, ⟨_, _, hR⟩, hdv.ne, hdv.own, hdv.rlen, hra⟩⟩, hF0⟩, hK0⟩
 have htkt : (0 ≤ t ∧ t < 4) := by have h9 := hc7; simp at h9; omega
 refine Vsk <| V_seq <| Vr <| On 3 [0, 1, 2, 20] <| Lr 0 (sl_ bP oP 12 cP) hy <| On 5 [0, 1, 2, 21, 22] <| Op_ [(0, pt y),(1, nt ref),(2, nt t),(21, sl_ bP oP 12 cP),(22, nt ref)] <| Oq (u := nt ref) (v := nt (j3 : Int)) 22 (by rw [hj3]) <| Oi (b := bP) (o := oP) (len := 12) (cap := cP) (j := j3) (some 23) 131 (.tmp 21) (.tmp 22) 171 7 56 .i64 <| On 7 [0, 1, 2, 24] ?_
 obtain ⟨x8, hx9⟩ := exAt (xs := s.ps) (i := j3)
 refine Lc (oP + j3 * 7) (.bool x8.isSome) hP.blk (At.cell0 hP (es_at hx9) rfl) <| Oe <| Vb (x8.isSome) (fun hc10 => ?_) (fun hc10 => ?_)
 ·
  obtain ⟨q9, rfl⟩ := Option.isSome_iff_exists.1 hc10
  refine Vs [(6, nt 5)] <| Rt ?_
  have hE : openE s ref t = 5 := by unfold openE; rw [if_neg (by omega), hj3, pollAt_in hx9 (by omega)]; rfl
  exact X_return _ rfl ⟨by rw [hE], ⟨F, by rw [show openS s ref t = s from by unfold openS; rw [hE]; rfl]; exact ⟨hdi, (ltm hFlt), _, _, _, _, _, _, _, ⟨hy, ⟨_, _, hP⟩, ⟨_, _, hR⟩, hdv.ne, hdv.own, hdv.rlen, hra⟩⟩, hF0⟩, hK0⟩
 obtain rfl : x8 = none := by simpa using hc10
 refine Vsk <| Vr <| On 3 [1, 2, 28] <| Lr 0 (sl_ bP oP 12 cP) hy <| On 7 [29, 30, 32] <| Op_ [(29, sl_ bP oP 12 cP),(30, nt ref),(32, .agg #[.bool true, nt t, nt 1, nt 0, nt 0, nt 0, nt 0])] <| Oq (u := nt ref) (v := nt (j3 : Int)) 30 (by rw [hj3]) <| Oi (b := bP) (o := oP) (len := 12) (cap := cP) (j := j3) (some 33) 131 (.tmp 29) (.tmp 30) 171 7 56 .i64 <| TsN (m := 7) (some (PollS.mk t Tly.zero 0 0) : (Option PollS)) 0 [.bool true, nt t, nt 1, nt 0, nt 0, nt 0, nt 0] hP hx9 rfl (by kernel_rfl) (by simp [Value.oneCell']) ?_
 intro w11 hat15 hk13 hz14 hlhx16 hx16
 have hsz17 := Keep.size hk13
 replace hy := hy.k1 hk13
 replace hR := hR.k1 hk13
 replace hra := RAll.keep hra hk13 (fun _ _ _ h _ hs => h hs)
 replace hK0 := fro hK0 hk13 hdv.own.2.1
 refine Oer <| Ose [(6, nt 0)] <| V_ret ?_
 have hE : openE s ref t = 0 := by unfold openE; rw [if_neg (by omega), hj3, pollAt_in hx9 (by omega)]; rfl
 exact X_return _ rfl ⟨by rw [hE], ⟨F, by rw [show openS s ref t = s.setP j3 (PollS.mk t Tly.zero 0 0) from by unfold openS; rw [if_pos hE, hj3]; rfl]; exact ⟨hdi.setP (by show 0 ≤ t ∧ t < 4; omega) (by show (0 : Int) ≠ 1; decide),(ltm hFlt), _, _, _, _, _, _, _, hy, ⟨_, _, hat15⟩, ⟨_, _, hR⟩, hdv.ne, hdv.own, hdv.rlen, RAll.same hra (fun _ _ => rfl) (vrow_new hdi.inv hx9 (PollS.mk t Tly.zero 0 0))⟩, hF0⟩, hK0⟩
theorem dcls_spec (F : Nat → Prop) (y : Nat) (s : VS) (ref st en : Int) (w : World) (h : DVt F w y s) : Calls Tryz.prog 99 #[pt y, nt ref, nt st, nt en] w fun e w' => e = .returned (nt (closeE s ref st)) ∧ (∃ F', DVt F' w' y (closeS s ref st en) ∧ (∀ q, F' q → F q ∨ w.heap.size ≤ q)) ∧ Keep F w w' := by
 obtain ⟨hdi, hFlt, bP, oP, cP, bR, oR, cR, rs, hdv⟩ := h
 obtain ⟨LP, TP, hP⟩ := hdv.pl
 obtain ⟨LR, TR, hR⟩ := hdv.rl
 have hy := hdv.blk
 obtain ⟨hyP, hyR, hPR⟩ := hdv.ne
 have hylt := hy.lt
 have hbPlt := hP.blk.lt
 have hbRlt := hR.blk.lt
 have hpl : s.ps.length = 12 := hdi.inv.len
 have hrl := hdv.rlen
 have hra := hdv.all
 have hF0 : ∀ q, F q → F q ∨ w.heap.size ≤ q := fun _ h => .inl h
 have hK0 := Keep.refl F w
 refine eV ?_
 refine Vr <| On 1 [0, 1, 2, 3] <| Oe <| V_seq <| V_block <| Vr <| On 2 [0, 1, 2, 3, 10, 11] <| Kk (dhas_spec F y s ref _ ⟨hdi, (ltm hFlt), _, _, _, _, _, _, _, ⟨hy, ⟨_, _, hP⟩, ⟨_, _, hR⟩, hdv.ne, hdv.own, hdv.rlen, hra⟩⟩) fun w1 hk2 _ => ?_
 replace hy := hy.k0 hk2
 replace hP := hP.k0 hk2
 replace hR := hR.k0 hk2
 replace hra := RAll.keep hra hk2 (fun _ _ _ _ _ f => f)
 replace hK0 := hK0.tn hk2
 refine Oen [0, 1, 2, 3, 9] <| Vb (!((pollAt s ref).isSome)) (fun hc4 => ?_) (fun hc4 => ?_)
 ·
  have hno : pollAt s ref = none := by simpa using hc4
  refine Vs [(8, nt 4)] <| V_ret <| X_ret_block <| X_ret_then ?_
  have hE : closeE s ref st = 4 ∧ closeS s ref st en = s := by unfold closeS closeE; rw [hno]; exact ⟨rfl, rfl⟩
  exact X_return _ rfl ⟨by rw [hE.1], ⟨F, by rw [show closeS s ref st en = s from hE.2]; exact ⟨hdi, (ltm hFlt), _, _, _, _, _, _, _, ⟨hy, ⟨_, _, hP⟩, ⟨_, _, hR⟩, hdv.ne, hdv.own, hdv.rlen, hra⟩⟩, hF0⟩, hK0⟩
 obtain ⟨⟨tk5, tl5, sta5, stp5⟩, hq5⟩ := Option.isSome_iff_exists.1 (show (pollAt s ref).isSome = true by simpa using hc4)
 obtain ⟨i5, rfl, hil5, hqi5⟩ := pollAt_some hq5
 obtain ⟨t5, rfl, htl5⟩ : ∃ t : Nat, tk5 = t ∧ t < 4 := by have h9 := hdi.trk _ _ hqi5; exact ⟨tk5.toNat, by simp only at h9; omega, by simp only at h9; omega⟩
 have hst5 : sta5 ≠ 1 := hdi.st _ _ hqi5
 refine Vr <| On 2 [0, 1, 2, 3, 15, 16] <| Ok (kL 110 #[(.tmp 15),(.tmp 16)] #[35, 3]) 110 #[pt y, nt (i5 : Int)] (some 17) (dopen_spec y bP oP cP LP TP s i5 _ _ _ hy hP hqi5 hst5 hpl) ?_
 rintro _ w6 ⟨rfl, hk7⟩
 refine ⟨_, rfl, ?_⟩
 have hsz8 := Keep.size hk7
 replace hy := hy.k0 hk7
 replace hP := hP.k0 hk7
 replace hR := hR.k0 hk7
 replace hra := RAll.keep hra hk7 (fun _ _ _ _ _ f => f)
 replace hK0 := hK0.tn hk7
 refine Oen [0, 1, 2, 3, 14] <| Vb (!(decide (sta5 = 0))) (fun hc9 => ?_) (fun hc9 => ?_)
 ·
  refine Vs [(8, nt 9)] <| V_ret <| X_ret_block <| X_ret_then ?_
  have hE : closeE s (i5 : Int) st = 9 := by unfold closeE; rw [hq5]; show (if sta5 ≠ 0 then (9 : Int) else if ¬ (2 ≤ st ∧ st ≤ 6) then 1 else 0) = 9; rw [if_pos (by simpa using hc9)]
  exact X_return _ rfl ⟨by rw [hE], ⟨F, by rw [show closeS s (i5 : Int) st en = s from by unfold closeS; rw [hq5]; show (if closeE s (i5 : Int) st = 0 then _ else s) = s; rw [hE]; rfl]; exact ⟨hdi, (ltm hFlt), _, _, _, _, _, _, _, ⟨hy, ⟨_, _, hP⟩, ⟨_, _, hR⟩, hdv.ne, hdv.own, hdv.rlen, hra⟩⟩, hF0⟩, hK0⟩
 refine Vr <| On 3 [0, 1, 2, 3, 22] ?_
 by_cases hg10 : st < 2
 ·
  refine Dt 22 hg10 <| Oen [0, 1, 2, 3, 19] <| Vo <| Vs [(8, nt 1)] <| V_ret <| X_ret_block <| X_ret_then ?_
  have hE : closeE s (i5 : Int) st = 1 := by unfold closeE; rw [hq5]; show (if sta5 ≠ 0 then (9 : Int) else if ¬ (2 ≤ st ∧ st ≤ 6) then 1 else 0) = 1; rw [if_neg (by simpa using hc9), if_pos (by omega)]
  exact X_return _ rfl ⟨by rw [hE], ⟨F, by rw [show closeS s (i5 : Int) st en = s from by unfold closeS; rw [hq5]; show (if closeE s (i5 : Int) st = 0 then _ else s) = s; rw [hE]; rfl]; exact ⟨hdi, (ltm hFlt), _, _, _, _, _, _, _, ⟨hy, ⟨_, _, hP⟩, ⟨_, _, hR⟩, hdv.ne, hdv.own, hdv.rlen, hra⟩⟩, hF0⟩, hK0⟩
 refine Df 22 hg10 <| Oen [0, 1, 2, 3, 19] <| Vi (st > 6) (fun hc11 => ?_) (fun hc11 => ?_)
 ·
  refine Vs [(8, nt 1)] <| V_ret <| X_ret_block <| X_ret_then ?_
  have hE : closeE s (i5 : Int) st = 1 := by unfold closeE; rw [hq5]; show (if sta5 ≠ 0 then (9 : Int) else if ¬ (2 ≤ st ∧ st ≤ 6) then 1 else 0) = 1; rw [if_neg (by simpa using hc9), if_pos (by omega)]
  exact X_return _ rfl ⟨by rw [hE], ⟨F, by rw [show closeS s (i5 : Int) st en = s from by unfold closeS; rw [hq5]; show (if closeE s (i5 : Int) st = 0 then _ else s) = s; rw [hE]; rfl]; exact ⟨hdi, (ltm hFlt), _, _, _, _, _, _, _, ⟨hy, ⟨_, _, hP⟩, ⟨_, _, hR⟩, hdv.ne, hdv.own, hdv.rlen, hra⟩⟩, hF0⟩, hK0⟩
 refine V_skip <| X_block <| X_then <| V_seq ?_
 have hdst : dst st = st := by unfold dst; rw [if_neg (by omega)]
 refine Vd1 (acts [14, 17]) (only bP) [0, 1, 2, 3, 4, 5, 6, 7, 8, 10, 12, 13, 14, 9, 11, 15, 16, 17] fun w13 hk12 he14 K17 _ => ?_
 replace hy := hy.k0 hk12
 replace hP := hP.k0 hk12
 replace hR := hR.k0 hk12
 replace hra := RAll.keep hra hk12 (fun _ _ _ _ _ f => f)
 replace hK0 := hK0.tn hk12
 have qhy := hy
 refine Gn [3, 4, 5, 6, 7, 8, 10, 12, 13, 14, 9, 11, 15, 16, 17] [0, 1, 2, 3, 28] <| Mc 0 (sl_ bP oP 12 cP) qhy (by show ¬ (_ = _); omega) rfl <| Gn [8, 10, 12, 13, 14, 9, 11, 15, 16, 17] [1, 2, 3, 29, 30, 33] <| Mc 0 (sl_ bP oP 12 cP) qhy (by show ¬ (_ = _); omega) rfl <| Gn [12, 13, 14, 9, 11, 15, 16, 17] [1, 3, 29, 30, 34, 36] <| Gi (b := bP) (o := oP) (len := 12) (cap := cP) (j := i5) 171 7 56 .i64 <| Gn [14, 9, 11, 15, 16, 17] [1, 3, 34, 36, 39] <| GI_set (m := 1) (kd := false) 3 (.tmp 39) (.tmp 36) (oP + i5 * 7 + 2) (nt st) [nt st] none (by kernel_rfl) (by kernel_rfl) (by kernel_rfl) (by kernel_rfl) (At.blk hP) (by kernel_rfl) (by kernel_rfl) rfl (by have h1 := At.room hP; have h2 := At.le hP; rw [List.length_map] at h2; omega) (by simp [Value.oneCell']) K17 (fun hh => rfl) ?_
 intro w18 hn19 hk20 hz21 K23
 obtain ⟨hat22, hlhx24, hx24⟩ := At.st1 (y := (some (PollS.mk (t5 : Int) tl5 st stp5) : (Option PollS))) (k := 2) hP hqi5 (by omega) (by rw [show dpc _ = _ from rfl]; simp only [dpc, pT, pSt, hdst]; rfl) hn19
 have hsz25 := Keep.size hk20
 replace hy := hy.k1 hk20
 replace hR := hR.k1 hk20
 replace hra := RAll.keep hra hk20 (fun _ _ _ h _ hs => h hs)
 replace hK0 := fro hK0 hk20 hdv.own.2.1
 refine Gn [15, 16, 17] [34, 35, 37] <| Gi (b := bP) (o := oP) (len := 12) (cap := cP) (j := i5) 171 7 56 .i64 <| Gn [17] [37, 41] <| GI_final 17 (by kernel_rfl) (by kernel_rfl) <| Tss1 (some (PollS.mk (t5 : Int) tl5 st en) : (Option PollS)) 3 (nt en) hat22 hx24 rfl ?_
 intro w26 hat30 hk28 hz29 hlhx31 hx31
 have hsz32 := Keep.size hk28
 replace hy := hy.k1 hk28
 replace hR := hR.k1 hk28
 replace hra := RAll.keep hra hk28 (fun _ _ _ h _ hs => h hs)
 replace hK0 := fro hK0 hk28 hdv.own.2.1
 refine Oer <| Ose [(8, nt 0)] <| V_ret ?_
 have hE : closeE s (i5 : Int) st = 0 := by unfold closeE; rw [hq5]; show (if sta5 ≠ 0 then (9 : Int) else if ¬ (2 ≤ st ∧ st ≤ 6) then 1 else 0) = 0; rw [if_neg (by simpa using hc9), if_neg (by omega)]
 exact X_return _ rfl ⟨by rw [hE], ⟨F, by rw [show closeS s (i5 : Int) st en = s.setP i5 (PollS.mk (t5 : Int) tl5 st en) from by unfold closeS; rw [hq5]; show (if closeE s (i5 : Int) st = 0 then _ else s) = _; rw [if_pos hE, Int.toNat_natCast]]; exact ⟨hdi.setP (have h9 := hdi.trk _ _ hqi5; h9) (by show st ≠ 1; omega),(ltm hFlt), _, _, _, _, _, _, _, hy, ⟨_, _, (by have h9 := hat30; (try rw [List.set_set] at h9); exact h9)⟩, ⟨_, _, hR⟩, hdv.ne, hdv.own, hdv.rlen, RAll.same hra (fun _ _ => rfl) (vrow_setP hqi5 rfl)⟩, hF0⟩, hK0⟩
end Go.Al
namespace Go.Al
open Go Go.RowKit Go.Proofs
theorem dtally_spec (F : Nat → Prop) (y : Nat) (s : VS) (ref : Int) (w : World) (h : DVt F w y s) : Calls Tryz.prog 98 #[pt y, nt ref] w fun e w' => e = .returned (.agg (Tly.cells (tallyT s ref)).toArray) ∧ Keep none_ w w' := by
 obtain ⟨hdi, hFlt, bP, oP, cP, bR, oR, cR, rs, hdv⟩ := h
 obtain ⟨LP, TP, hP⟩ := hdv.pl
 obtain ⟨LR, TR, hR⟩ := hdv.rl
 have hy := hdv.blk
 obtain ⟨hyP, hyR, hPR⟩ := hdv.ne
 have hylt := hy.lt
 have hbPlt := hP.blk.lt
 have hbRlt := hR.blk.lt
 have hpl : s.ps.length = 12 := hdi.inv.len
 have hrl := hdv.rlen
 have hra := hdv.all
 have hF0 : ∀ q, F q → F q ∨ w.heap.size ≤ q := fun _ h => .inl h
 have hK0 := Keep.refl none_ w
 refine enterM Tryz.func98 rfl [pt y, nt ref] 18 rfl rfl rfl ?_
 refine Vp [(0, pt y),(1, nt ref)] <| Vr <| Alc_ 42 (.agg #[nt 0, nt 0, nt 0]) [nt 0, nt 0, nt 0] ?_
 intro b1 w1 e1 hb1 k1 z1
 have hsz2 := Keep.size k1
 replace hy := hy.k0 k1
 replace hP := hP.k0 k1
 replace hR := hR.k0 k1
 replace hra := RAll.keep hra k1 (fun _ _ _ _ _ f => f)
 replace hK0 := hK0.tn k1
 have hb1lt := hb1.lt
 refine Oe <| V_seq <| Vr <| On 2 [0, 1, 4, 5, 6] <| Kk (dhas_spec F y s ref _ ⟨hdi, (ltm hFlt), _, _, _, _, _, _, _, ⟨hy, ⟨_, _, hP⟩, ⟨_, _, hR⟩, hdv.ne, hdv.own, hdv.rlen, hra⟩⟩) fun w3 hk4 _ => ?_
 replace hy := hy.k0 hk4
 replace hb1 := hb1.k0 hk4
 replace hP := hP.k0 hk4
 replace hK0 := hK0.tn hk4
 refine Oen [0, 1, 4, 8] <| Vb (!((pollAt s ref).isSome)) (fun hc6 => ?_) (fun hc6 => ?_)
 ·
  have hno : pollAt s ref = none := by simpa using hc6
  refine Vr <| Os 1 [(4, pt b1),(9, .agg #[nt 0, nt 0, nt 0])] <| OI_set (m := 3) (kd := true) 42 (.tmp 4) (.tmp 9) 0 (.agg #[nt 0, nt 0, nt 0]) [nt 0, nt 0, nt 0] none (by kernel_rfl) (by kernel_rfl) (by kernel_rfl) hb1 (by kernel_rfl) (by kernel_rfl) (by kernel_rfl) (Nat.le_of_ble_eq_true (by kernel_rfl)) (by simp [Value.oneCell']) ?_
  intro w7 hb1_10 hk8 hz9
  replace hb1_10 : Blk w7 b1 [nt 0, nt 0, nt 0] 42 := hb1_10
  have hsz11 := Keep.size hk8
  replace hK0 := Keep.fr hK0 hk8
  refine Oe <| Rt ?_
  exact leave0 (.agg [nt 0, nt 0, nt 0].toArray) (.inl rfl) (res_agg1 (m := 3) rfl rfl (by kernel_rfl) hb1_10 rfl) ⟨by unfold tallyT; (rw [hno]) <;> rfl, hK0⟩
 obtain ⟨⟨tk12, tl12, sta12, stp12⟩, hq12⟩ := Option.isSome_iff_exists.1 (show (pollAt s ref).isSome = true by simpa using hc6)
 obtain ⟨i12, rfl, hil12, hqi12⟩ := pollAt_some hq12
 obtain ⟨t12, rfl, htl12⟩ : ∃ t : Nat, tk12 = t ∧ t < 4 := by have h9 := hdi.trk _ _ hqi12; exact ⟨tk12.toNat, by simp only at h9; omega, by simp only at h9; omega⟩
 have hst12 : sta12 ≠ 1 := hdi.st _ _ hqi12
 refine Vsk <| Vr <| On 3 [1, 4, 12] <| Lr 0 (sl_ bP oP 12 cP) hy <| On 5 [4, 13, 14] <| Oi (b := bP) (o := oP) (len := 12) (cap := cP) (j := i12) (some 15) 131 (.tmp 13) (.tmp 14) 171 7 56 .i64 <| Os 7 [(4, pt b1),(16, .pointer (some ⟨bP, oP + i12 * 7 + 4, none⟩))] <| Oa 42 (.tmp 16) (oP + i12 * 7 + 4) (Tly.cells tl12) (some 17) 3 hP.blk (At.sub hP (es_at hqi12) (by decide) rfl) (Tly.len _) <| Sg 0 (Tly.cells tl12) hb1 (Tly.len _) (Tly.one _) ?_
 intro w13 hb1_16 hk14 hz15
 replace hb1_16 : Blk w13 b1 (Tly.cells tl12) 42 := (by rwa [over_whole (by rw [Tly.len]; rfl)] at hb1_16)
 have hsz17 := Keep.size hk14
 replace hK0 := Keep.fr hK0 hk14
 refine Oe <| V_ret ?_
 exact leave0 (.agg (Tly.cells tl12).toArray) (.inl rfl) (res_agg1 (m := 3) rfl rfl (by kernel_rfl) hb1_16 rfl) ⟨by unfold tallyT; (rw [hq12]) <;> rfl, hK0⟩
end Go.Al
namespace Go.Al
open Go Go.RowKit Go.Proofs
theorem DInv.zero : DInv VS.zero := ⟨⟨rfl, fun c hc => (by cases hc), fun a t d hd => (by cases hd)⟩, TrkOk.zero, fun i q h => (by
  have := List.eq_of_mem_replicate (List.mem_of_getElem? h)
  cases this), List.Pairwise.nil⟩
theorem dnew_spec (w : World) : Calls Tryz.prog 23 #[] w fun e w' => ∃ y F, e = .returned (pt y) ∧ DVt F w' y VS.zero ∧ Keep none_ w w' ∧ (∀ q, F q → w.heap.size ≤ q) := by
 have hK0 := Keep.refl none_ w
 refine eV ?_
 refine Vs [] <| V_seq <| Vd (acts [0, 1, 3]) none_ [[0, 1, 2, 3, 4], [1, 0, 2, 3, 4]] ?_
 intro w2 hk1 he3 L hL4
 have hsz5 := Keep.size hk1
 replace hK0 := hK0.tn hk1
 have K6 : Keep none_ w2 w2 := Keep.refl _ _
 simp only [List.mem_cons, List.not_mem_nil, or_false] at hL4
 rcases hL4 with rfl | rfl
 ·
  refine GI_make (E := 171) (sz := 7) (by_ := 56) (m := 12) (kd := .i64) (zv := .agg #[.bool false, nt 0, nt 0, nt 0, nt 0, nt 0, nt 0]) 131 (.const (Value.int IntKind.i64 12)) (.const (Value.int IntKind.i64 12)) ((List.replicate 12 [.bool false, nt 0, nt 0, nt 0, nt 0, nt 0, nt 0]).flatten) (some 1) (by kernel_rfl) (by kernel_rfl) K6 (by kernel_rfl) (by kernel_rfl) (by kernel_rfl) (by kernel_rfl) (by decide) (by decide) (by kernel_rfl) ?_
  intro b7 w7 e7 hb7 k7 z7 K8
  have hsz9 := Keep.size k7
  replace hK0 := hK0.tn k7
  have hb7lt := hb7.lt
  refine GI_make (E := 235) (sz := 9) (by_ := 88) (m := 40) (kd := .i64) (zv := .agg #[.slice none 0 0, .bool false, nt 0, nt 0, nt 0, nt 0, nt 0, nt 0, nt 0]) 132 (.const (Value.int IntKind.i64 40)) (.const (Value.int IntKind.i64 40)) ((List.replicate 40 [.slice none 0 0, .bool false, nt 0, nt 0, nt 0, nt 0, nt 0, nt 0, nt 0]).flatten) (some 2) (by kernel_rfl) (by kernel_rfl) K8 (by kernel_rfl) (by kernel_rfl) (by kernel_rfl) (by kernel_rfl) (by decide) (by decide) (by kernel_rfl) ?_
  intro b10 w10 e10 hb10 k10 z10 K11
  have hsz12 := Keep.size k10
  replace hK0 := hK0.tn k10
  have hb10lt := hb10.lt
  refine Gn [3, 4] [3] <| GI_box 134 (.tmp 3) (.agg #[sl_ b7 0 12 12, sl_ b10 0 40 40]) [sl_ b7 0 12 12, sl_ b10 0 40 40] (some 4) (by kernel_rfl) (by kernel_rfl) K11 (by kernel_rfl) (by kernel_rfl) ?_
  intro b13 w13 e13 hb13 k13 z13 K14
  have hsz15 := Keep.size k13
  replace hb7 := hb7.k0 (k10.tr k13)
  replace hb10 := hb10.k0 k13
  replace hK0 := hK0.tn k13
  have hb13lt := hb13.lt
  refine Gs [] [(0, pt b13)] <| GI_end <| X_then <| V_ret ?_
  have hsP : SlT w13 7 dpc (some ⟨b7, 0, none⟩) 12 (List.replicate 12 (none : Option PollS)) := slt_blk (xs := List.replicate 12 (none : Option PollS)) (f := dpc) hb7 dpc_len rfl
  have hsR : SlT w13 9 DR.cells (some ⟨b10, 0, none⟩) 40 (List.replicate 40 (DR.of none 0 [] RecS.zero)) := slt_blk (xs := List.replicate 40 (DR.of none 0 [] RecS.zero)) (f := DR.cells) hb10 DR.len rfl
  obtain ⟨bP9, oP9, LP9, TP9, eP9, hP9⟩ := SlT.open_ hsP (by decide)
  cases eP9
  obtain ⟨bR9, oR9, LR9, TR9, eR9, hR9⟩ := SlT.open_ hsR (by decide)
  cases eR9
  exact X_return _ rfl ⟨b13, (fun q => q = b13 ∨ q = b7 ∨ q = b10), rfl, ⟨DInv.zero, fun q hq => by rcases hq with h | h | h <;> omega, b7, 0, 12, b10, 0, 40, _, ⟨hb13, ⟨_, _, hP9⟩, ⟨_, _, hR9⟩, ⟨by omega, by omega, by omega⟩, ⟨.inl rfl, .inr (.inl rfl), .inr (.inr rfl)⟩, by simp, fun j d hd => by obtain rfl := List.eq_of_mem_replicate (List.mem_of_getElem? hd); exact ⟨rfl, SlT.nil _ _ _, fun q hq => (inA_none hq).elim⟩⟩⟩, hK0, fun q hq => by rcases hq with h | h | h <;> omega⟩
 ·
  refine GI_make (E := 235) (sz := 9) (by_ := 88) (m := 40) (kd := .i64) (zv := .agg #[.slice none 0 0, .bool false, nt 0, nt 0, nt 0, nt 0, nt 0, nt 0, nt 0]) 132 (.const (Value.int IntKind.i64 40)) (.const (Value.int IntKind.i64 40)) ((List.replicate 40 [.slice none 0 0, .bool false, nt 0, nt 0, nt 0, nt 0, nt 0, nt 0, nt 0]).flatten) (some 2) (by kernel_rfl) (by kernel_rfl) K6 (by kernel_rfl) (by kernel_rfl) (by kernel_rfl) (by kernel_rfl) (by decide) (by decide) (by kernel_rfl) ?_
  intro b16 w16 e16 hb16 k16 z16 K17
  have hsz18 := Keep.size k16
  replace hK0 := hK0.tn k16
  have hb16lt := hb16.lt
  refine GI_make (E := 171) (sz := 7) (by_ := 56) (m := 12) (kd := .i64) (zv := .agg #[.bool false, nt 0, nt 0, nt 0, nt 0, nt 0, nt 0]) 131 (.const (Value.int IntKind.i64 12)) (.const (Value.int IntKind.i64 12)) ((List.replicate 12 [.bool false, nt 0, nt 0, nt 0, nt 0, nt 0, nt 0]).flatten) (some 1) (by kernel_rfl) (by kernel_rfl) K17 (by kernel_rfl) (by kernel_rfl) (by kernel_rfl) (by kernel_rfl) (by decide) (by decide) (by kernel_rfl) ?_
  intro b19 w19 e19 hb19 k19 z19 K20
  have hsz21 := Keep.size k19
  replace hK0 := hK0.tn k19
  have hb19lt := hb19.lt
  refine Gn [3, 4] [3] <| GI_box 134 (.tmp 3) (.agg #[sl_ b19 0 12 12, sl_ b16 0 40 40]) [sl_ b19 0 12 12, sl_ b16 0 40 40] (some 4) (by kernel_rfl) (by kernel_rfl) K20 (by kernel_rfl) (by kernel_rfl) ?_
  intro b22 w22 e22 hb22 k22 z22 K23
  have hsz24 := Keep.size k22
  replace hb16 := hb16.k0 (k19.tr k22)
  replace hb19 := hb19.k0 k22
  replace hK0 := hK0.tn k22
  have hb22lt := hb22.lt
  refine Gs [] [(0, pt b22)] <| GI_end <| X_then <| V_ret ?_
  have hsP : SlT w22 7 dpc (some ⟨b19, 0, none⟩) 12 (List.replicate 12 (none : Option PollS)) := slt_blk (xs := List.replicate 12 (none : Option PollS)) (f := dpc) hb19 dpc_len rfl
  have hsR : SlT w22 9 DR.cells (some ⟨b16, 0, none⟩) 40 (List.replicate 40 (DR.of none 0 [] RecS.zero)) := slt_blk (xs := List.replicate 40 (DR.of none 0 [] RecS.zero)) (f := DR.cells) hb16 DR.len rfl
  obtain ⟨bP9, oP9, LP9, TP9, eP9, hP9⟩ := SlT.open_ hsP (by decide)
  cases eP9
  obtain ⟨bR9, oR9, LR9, TR9, eR9, hR9⟩ := SlT.open_ hsR (by decide)
  cases eR9
  exact X_return _ rfl ⟨b22, (fun q => q = b22 ∨ q = b19 ∨ q = b16), rfl, ⟨DInv.zero, fun q hq => by rcases hq with h | h | h <;> omega, b19, 0, 12, b16, 0, 40, _, ⟨hb22, ⟨_, _, hP9⟩, ⟨_, _, hR9⟩, ⟨by omega, by omega, by omega⟩, ⟨.inl rfl, .inr (.inl rfl), .inr (.inr rfl)⟩, by simp, fun j d hd => by obtain rfl := List.eq_of_mem_replicate (List.mem_of_getElem? hd); exact ⟨rfl, SlT.nil _ _ _, fun q hq => (inA_none hq).elim⟩⟩⟩, hK0, fun q hq => by rcases hq with h | h | h <;> omega⟩
end Go.Al
namespace Go.Al
open Go Go.RowKit Go.Proofs
structure RInv (ts : List Trk) (rs : List Rfm) : Prop where
  inn : RfIn ts rs
  ge : ∀ x ∈ rs, -1 ≤ x.backer ∧ -1 ≤ x.since ∧ -1 ≤ x.till
structure DRX (F : Nat → Prop) (w : World) (z : Nat) (A : Option Addr) (cap : Nat) (B : Option Addr) (capb : Nat) (ts : List Trk) (rs : List Rfm) : Prop where
  blk : Blk w z [.slice A ts.length cap, .slice B rs.length capb] 98
  tl : SlT w 18 Trk.cells A cap ts
  rl : SlT w 45 Rfm.cells B capb rs
  za : ∀ q, inA A q → F q ∧ q ≠ z
  zb : ∀ q, inA B q → F q ∧ q ≠ z
  ab : ∀ q, inA A q → ¬ inA B q
def DRf (F : Nat → Prop) (w : World) (z : Nat) (ts : List Trk) (rs : List Rfm) : Prop := RInv ts rs ∧ F z ∧ (∀ q, F q → q < w.heap.size) ∧ ∃ A cap B capb, DRX F w z A cap B capb ts rs
section
variable {F S : Nat → Prop} {w w' : World} {z : Nat} {ts : List Trk} {rs rs' : List Rfm}
theorem DRf.lt (h : DRf F w z ts rs) : ∀ q, F q → q < w.heap.size := h.2.2.1
theorem DRf.at_ (h : DRf F w z ts rs) : F z := h.2.1
theorem DRf.rinv (h : DRf F w z ts rs) : RInv ts rs := h.1
theorem DRf.keep (h : DRf F w z ts rs) (k : Keep S w w') (hS : ∀ q, F q → ¬ S q) : DRf F w' z ts rs := by
  obtain ⟨h0, h1, h2, A, cap, B, capb, h3⟩ := h
  exact ⟨h0, h1, fun q hq => Nat.lt_of_lt_of_le (h2 q hq) k.size, A, cap, B, capb, ⟨h3.blk.keep k (hS _ h1), h3.tl.keep k (fun q hq => hS q (h3.za q hq).1), h3.rl.keep k (fun q hq => hS q (h3.zb q hq).1), h3.za, h3.zb, h3.ab⟩⟩
theorem DRf.quiet {N : Nat} (h : DRf F w z ts rs) (k : Keep (lb N w) w w') : DRf F w' z ts rs := by
  obtain ⟨h0, h1, h2, A, cap, B, capb, h3⟩ := h
  exact ⟨h0, h1, fun q hq => Nat.lt_of_lt_of_le (h2 q hq) k.size, A, cap, B, capb, ⟨h3.blk.quiet k, h3.tl.quiet k, h3.rl.quiet k, h3.za, h3.zb, h3.ab⟩⟩
end
theorem RInv.nil {ts : List Trk} (h : okTs ts) : RInv ts [] := ⟨⟨h.2.1, h.2.2, Nat.zero_le _, fun x hx => (by cases hx)⟩, fun x hx => (by cases hx)⟩
theorem rnew12_spec (A : Option Addr) (cap : Nat) (ts : List Trk) (w : World) (hA : SlT w 18 Trk.cells A cap ts) (hok : okTs ts) : Calls Tryz.prog 21 #[.slice A ts.length cap] w fun e w' => ∃ z F, e = .returned (.tuple #[pt z, nt 0]) ∧ DRf F w' z ts [] ∧ Keep none_ w w' ∧ (∀ q, F q → w.heap.size ≤ q) := by
 have hAlt := SlT.lt hA
 have hok1 := hok.1
 have hok2 := hok.2.1
 have hK0 := Keep.refl none_ w
 refine eV ?_
 refine Vr <| On 2 [0] <| Oe <| V_seq <| Vr <| On 4 [0, 8] <| Oq (u := .bool (decide ((ts.length : Int) < 1))) (v := .bool false) 8 (by rw [decide_eq_false (by omega : ¬ ((ts.length : Int) < 1))]) <| Oen [0, 12] <| Vp [(0, .slice A ts.length cap),(12, .bool (decide ((ts.length : Int) > 4)))] <| Vq (u := .bool (decide ((ts.length : Int) > 4))) (v := .bool false) 12 (by rw [decide_eq_false (by omega : ¬ ((ts.length : Int) > 4))]) <| Vf <| Vsk <| V_seq <| Vn [0, 4] <| V_block <| Vp [(0, .slice A ts.length cap),(4, nt 0)] <| V_loop (fun k wI e => ∃ i : Nat, (k + i = ts.length) ∧ Keep none_ w wI ∧ e = [(0, .slice A ts.length cap),(4, nt (i : Int))]) ts.length ⟨0, rfl, Keep.refl _ _, rfl⟩ ?_
 rintro k4 w3 _ ⟨i, hki, hk5, rfl⟩
 have hsz6 := Keep.size hk5
 replace hA := hA.keep0 hk5
 replace hK0 := hK0.tn hk5
 have hzhk5 := Keep.size hk5
 refine V_seq <| Vn [0, 4, 16] <| Vi ((i : Int) < (ts.length : Int)) (fun hc7 => ?_) (fun hc7 => ?_)
 ·
  refine Vsk <| V_seq <| V_block <| Vr <| On 2 [0, 4, 19, 20] ?_
  obtain ⟨b8, o8, L8, T8, rfl, hat8⟩ := SlT.opn hA
  have hb8lt := hat8.blk.lt
  have hob9 := hAlt b8 ⟨_, rfl, rfl⟩
  refine Oi (b := b8) (o := o8) (len := ts.length) (cap := cap) (j := i) (some 21) 67 (.tmp 19) (.tmp 20) 80 18 144 .i64 ?_
  obtain ⟨x10, hx11⟩ := exAt (xs := ts) (i := i)
  have hokx : okTrk x10 := hok.2.2 x10 (List.mem_of_getElem? hx11)
  refine La (o8 + i * 18) (Trk.cells x10) 18 hat8.blk (At.elem' hat8 (es_at hx11)) (At.len hat8 (es_at hx11)) <| Kk (r10Is_spec x10 _) fun w12 hk13 _ => ?_
  replace hk5 := hk5.tn hk13
  refine Oen [0, 4, 24] <| Vp [(0, sl_ b8 o8 ts.length cap),(4, nt (i : Int)),(24, .bool (!(decide (okTrk x10))))] <| Vq (u := .bool (!(decide (okTrk x10)))) (v := .bool false) 24 (by rw [decide_eq_true hokx]; rfl) <| Vf <| V_skip <| X_block <| X_then <| V_region ?_
  have hw16 : i64.wrap ((i : Int) + 1) = ((i + 1 : Nat) : Int) := wrp
  refine On 2 [0, 18] <| Oq (u := nt (i64.wrap ((i : Int) + 1))) (v := nt ((i + 1 : Nat) : Int)) 18 (by rw [hw16]) <| Os 3 [(0, sl_ b8 o8 ts.length cap),(4, nt ((i + 1 : Nat) : Int))] <| OI_end rfl ?_
  exact V_again (k4 - 1) (by omega) [(0, sl_ b8 o8 ts.length cap),(4, nt ((i + 1 : Nat) : Int))] rfl ⟨i + 1, by omega, hk5, rfl⟩
 refine V_exit <| X_exit_then <| X_exit_then <| X_exit_here <| X_then <| Vr <| OI_slit (E := 80) (zv := .agg #[nt 0, nt 0, nt 0, nt 0, nt 0, nt 0, nt 0, nt 0, nt 0, nt 0, nt 0, nt 0, nt 0, nt 0, nt 0, nt 0, nt 0, nt 0]) (sz := 18) (by_ := 144) 67 0 #[] [] [] (some 25) (by kernel_rfl) (by kernel_rfl) (by kernel_rfl) (by omega) rfl (by omega) (by intro v hv; cases hv) (by kernel_rfl) rfl ?_
 intro b17 w17 e17 hb17 k17 z17
 have hsz18 := Keep.size k17
 replace hA := hA.keep0 k17
 replace hK0 := hK0.tn k17
 have hb17lt := hb17.lt
 refine On 2 [25, 26] ?_
 have hl19 : ts.length = ts.length := rfl
 have hy19 := SlT.slr hA
 refine OI_append (t := 67) (at2 := 67) (E := 80) (E2 := 80) (sz := 18) (by_ := 144) (zv := .agg #[nt 0, nt 0, nt 0, nt 0, nt 0, nt 0, nt 0, nt 0, nt 0, nt 0, nt 0, nt 0, nt 0, nt 0, nt 0, nt 0, nt 0, nt 0]) (m := ([] : List Trk).length) (k := ts.length) (.tmp 25) (.tmp 26) (sl_ b17 0 0 0) (.slice A ts.length cap) (some 27) (by kernel_rfl) (by kernel_rfl) (by kernel_rfl) (by kernel_rfl) (by kernel_rfl) (by kernel_rfl) (by kernel_rfl) (SlT.slr (slt_blk (xs := ([] : List Trk)) (f := Trk.cells) (sz := 18) hb17 Trk.len rfl)) hy19 (fun u hu => by obtain ⟨z, _, hz⟩ := List.mem_flatMap.1 hu; exact Trk.one z u hz) (by first | omega | ((repeat first | rw [List.length_append] | rw [List.length_cons] | rw [List.length_nil] | rw [List.length_take] | rw [List.length_drop]) <;> omega)) (by omega) (by first | omega | ((repeat first | rw [List.length_append] | rw [List.length_cons] | rw [List.length_nil] | rw [List.length_take] | rw [List.length_drop]) <;> omega)) (by omega) ?_
 intro vv9 w19 hap
 obtain ⟨A19, cap19, rfl, hA19, hk19, own19x⟩ := app_many (f := Trk.cells) (xs := ([] : List Trk)) (ys := ts) (A := (some ⟨b17, 0, none⟩)) (cap := 0) hap hl19 Trk.len
 replace hk19 : Keep (only b17) w17 w19 := hk19.mono (fun i _ h => inA_some h)
 have own19 : ∀ q, inA A19 q → w.heap.size ≤ q := fun q hq => by rcases own19x q hq with h | h; (have h9 := inA_some h; show w.heap.size ≤ q; omega); (show w.heap.size ≤ q; omega)
 rw [List.nil_append] at hA19
 have hsz20 := Keep.size hk19
 replace hK0 := Keep.fr hK0 hk19
 have lt19 := SlT.lt hA19
 have hcap19 := SlT.cap_le hA19
 refine On 4 [28] <| Bx 98 [.slice A19 ts.length cap19, .slice none 0 0] ?_
 intro b21 w21 e21 hb21 k21 z21
 have hsz22 := Keep.size k21
 replace hA19 := hA19.keep0 k21
 replace hK0 := hK0.tn k21
 have hb21lt := hb21.lt
 refine Ose [(2, pt b21),(3, nt 0)] <| V_ret ?_
 exact X_return _ rfl ⟨b21, (fun q => q = b21 ∨ inA A19 q), rfl, ⟨RInv.nil hok, .inl rfl, (fun q hq => by rcases hq with h | h; omega; (have h1 := lt19 q h; omega)), A19, cap19, none, 0, ⟨hb21, hA19, SlT.nil _ _ _, (fun q h => ⟨.inr h, by have h1 := own19 q h; have h2 := lt19 q h; omega⟩),(fun q h => (inA_none h).elim), fun q _ h => inA_none h⟩⟩, hK0, fun q hq => by rcases hq with h | h; omega; (have h1 := own19 q h; omega)⟩
end Go.Al
namespace Go.Al
open Go Go.RowKit Go.Proofs
theorem there_spec (H : Nat → Prop) (z : Nat) (ts : List Trk) (rs : List Rfm) (ref : Int) (w : World) (h : DRf H w z ts rs) : Calls Tryz.prog 97 #[pt z, nt ref] w fun e w' => e = .returned (.bool (decide (0 ≤ ref ∧ ref < (rs.length : Int)))) ∧ w' = w := by
 obtain ⟨hrv, hHz, hHlt, A, cap, B, capb, hdz⟩ := h
 have hz := hdz.blk
 have hA := hdz.tl
 have hB := hdz.rl
 have hzlt := hz.lt
 have hAz : ∀ q, inA A q → q ≠ z := fun q hq => (hdz.za q hq).2
 have hBz : ∀ q, inA B q → q ≠ z := fun q hq => (hdz.zb q hq).2
 have hAlt := SlT.lt hA
 have hBlt := SlT.lt hB
 have htl := hrv.inn.tl
 have hrl := hrv.inn.rl
 refine eV ?_
 refine Vr <| On 1 [0, 1] <| Oer <| On 3 [0, 1, 7] ?_
 by_cases hg1 : ref ≥ 0
 ·
  exact Dt 7 hg1 <| On 7 [7, 8, 11] <| Lr 1 (.slice B rs.length capb) hz <| Oen [4] <| Rr (.bool (decide (ref < (rs.length : Int)))) ⟨by congr 2; by_cases h1 : 0 ≤ ref <;> simp [h1] <;> omega, rfl⟩
 exact Df 7 hg1 <| Oen [4] <| Rr (.bool false) ⟨by congr 2; by_cases h1 : 0 ≤ ref <;> simp [h1] <;> omega, rfl⟩
theorem dng_out {rs : List Rfm} {ref : Int} (h : ¬ (0 ≤ ref ∧ ref < (rs.length : Int))) : ongE rs ref = 4 ∧ getR rs ref = none := by
  have e : getR rs ref = none := by unfold getR; rw [if_neg h]
  exact ⟨by unfold ongE; rw [e], e⟩
theorem dng_at {rs : List Rfm} {j : Nat} {x : Rfm} (h : rs[j]? = some x) : ongE rs (j : Int) = (if x.state = 1 then 0 else 9) ∧ getR rs (j : Int) = some x ∧ getA rs (j : Int) = x := by
  have hl := (List.getElem?_eq_some_iff.1 h).1
  have e : getR rs (j : Int) = some x := by unfold getR; rw [if_pos ⟨by omega, by omega⟩, Int.toNat_natCast, h]
  exact ⟨by unfold ongE; rw [e], e, by unfold getA; rw [e]; rfl⟩
theorem rmay_spec (H : Nat → Prop) (z : Nat) (ts : List Trk) (rs : List Rfm) (ref : Int) (w : World) (h : DRf H w z ts rs) : Calls Tryz.prog 67 #[pt z, nt ref] w fun e w' => e = .returned (nt (ongE rs ref)) ∧ Keep none_ w w' := by
 have h9 := h
 obtain ⟨hrv, hHz, hHlt, A, cap, B, capb, hdz⟩ := h
 have hz := hdz.blk
 have hA := hdz.tl
 have hB := hdz.rl
 have hzlt := hz.lt
 have hAz : ∀ q, inA A q → q ≠ z := fun q hq => (hdz.za q hq).2
 have hBz : ∀ q, inA B q → q ≠ z := fun q hq => (hdz.zb q hq).2
 have hAlt := SlT.lt hA
 have hBlt := SlT.lt hB
 have htl := hrv.inn.tl
 have hrl := hrv.inn.rl
 have hK0 := Keep.refl none_ w
 refine eV ?_
 refine Vr <| On 1 [0, 1] <| Oe <| V_seq <| Vr <| On 2 [0, 1, 5, 6] <| Kq (there_spec H z ts rs ref _ h9) <| Oen [0, 1, 8] <| V_not (0 ≤ ref ∧ ref < (rs.length : Int)) (by kernel_rfl) (fun hc2 => ?_) (fun hc2 => ?_)
 ·
  obtain ⟨hng, hgn⟩ := dng_out hc2
  exact Vn [4] <| Rt <| Xr (nt 4) ⟨by rw [hng], hK0⟩
 obtain ⟨j, rfl⟩ : ∃ j : Nat, ref = j := ⟨ref.toNat, by omega⟩
 refine Vsk <| V_seq <| Vr <| On 3 [1, 11] <| Lr 1 (.slice B rs.length capb) hz <| On 5 [12, 13] ?_
 obtain ⟨b3, o3, L3, T3, rfl, hat3⟩ := SlT.opn hB
 have hb3lt := hat3.blk.lt
 have hob4 := hBz b3 ⟨_, rfl, rfl⟩
 have hob5 := hBlt b3 ⟨_, rfl, rfl⟩
 have hne6 : ∀ q, inA A q → q ≠ b3 := fun q hq hs => hdz.ab q hq ⟨_, rfl, hs⟩
 have own7 := fun q hq => And.intro (hAz q hq) (hne6 q hq)
 refine Oi (b := b3) (o := o3) (len := rs.length) (cap := capb) (j := j) (some 14) 96 (.tmp 12) (.tmp 13) 44 45 136 .i64 <| On 7 [15] ?_
 obtain ⟨x8, hx9⟩ := exAt (xs := rs) (i := j)
 refine Lc (o3 + j * 45) (nt x8.state) hat3.blk (At.cell0 hat3 (es_at hx9) rfl) <| Oen [17] <| V_not (x8.state = 1) (by kernel_rfl) (fun hc10 => ?_) (fun hc10 => ?_)
 ·
  exact Vn [4] <| Rt <| Xr (nt 9) ⟨by rw [(dng_at hx9).1, if_neg hc10], hK0⟩
 exact Vsk <| Vn [4] <| Rr (nt 0) ⟨by rw [(dng_at hx9).1, if_pos hc10], hK0⟩
end Go.Al
namespace Go.Al
open Go Go.RowKit Go.Proofs
theorem RInv.set {ts : List Trk} {rs : List Rfm} (h : RInv ts rs) {j : Nat} {y : Rfm} (h1 : 0 ≤ y.track ∧ y.track < ts.length) (h2 : -1 ≤ y.backer ∧ -1 ≤ y.since ∧ -1 ≤ y.till) : RInv ts (rs.set j y) :=
  ⟨⟨h.inn.tl, h.inn.tok, by rw [List.length_set]; exact h.inn.rl, fun x hx => by
    rcases List.mem_or_eq_of_mem_set hx with hx | rfl
    · exact h.inn.rtk x hx
    · exact h1⟩, fun x hx => by
    rcases List.mem_or_eq_of_mem_set hx with hx | rfl
    · exact h.ge x hx
    · exact h2⟩
end Go.Al
namespace Go.Al
open Go Go.RowKit Go.Proofs
set_option maxHeartbeats 1000000 in
theorem rend12_spec (H : Nat → Prop) (z : Nat) (ts : List Trk) (rs : List Rfm) (F : Nat → Prop) (y : Nat) (s : VS) (ref st now : Int) (w : World) (h : DRf H w z ts rs) (hV : DVt F w y s) (hHF : ∀ q, H q → ¬ F q) (hx : getR rs ref = some (getA rs ref)) : Calls Tryz.prog 68 #[pt z, pt y, nt ref, nt st, nt now] w fun e w' => e = .returned (.agg (Evt.mk 1 ref st).cells.toArray) ∧ (∃ H' F', DRf H' w' z ts (endR s rs ref st now) ∧ DVt F' w' y (closeS s ref st now) ∧ (∀ q, H' q → H q ∨ w.heap.size ≤ q) ∧ (∀ q, F' q → F q ∨ w.heap.size ≤ q) ∧ (∀ q, H' q → ¬ F' q)) ∧ Keep (fun q => H q ∨ F q) w w' := by
 obtain ⟨hrv, hHz, hHlt, A, cap, B, capb, hdz⟩ := h
 have hz := hdz.blk
 have hA := hdz.tl
 have hB := hdz.rl
 have hzlt := hz.lt
 have hAz : ∀ q, inA A q → q ≠ z := fun q hq => (hdz.za q hq).2
 have hBz : ∀ q, inA B q → q ≠ z := fun q hq => (hdz.zb q hq).2
 have hAlt := SlT.lt hA
 have hBlt := SlT.lt hB
 have htl := hrv.inn.tl
 have hrl := hrv.inn.rl
 have hHr : ∀ q, H q → H q ∨ w.heap.size ≤ q := fun _ h => .inl h
 have hFlt := DVt.lt hV
 have hFz : ∀ q, F q → q ≠ z := fun q h e => hHF z hHz (e ▸ h)
 have hFo : ∀ q, F q → q ≠ z ∧ q ≠ z := fun q h => ⟨hFz q h, hFz q h⟩
 have dFA : ∀ q, F q → ¬ inA A q := fun q h1 h2 => hHF q (hdz.za q h2).1 h1
 have dFB : ∀ q, F q → ¬ inA B q := fun q h1 h2 => hHF q (hdz.zb q h2).1 h1
 have hylt9 := hFlt _ (DVt.at_ hV)
 have hFr : ∀ q, F q → F q ∨ w.heap.size ≤ q := fun _ h => .inl h
 obtain ⟨href, htr, hrat⟩ := getA_at hrv.inn hx
 obtain ⟨jt, hjt, hjl, htk, htm⟩ := trkA_at htr
 obtain ⟨jr, hjr⟩ : ∃ j : Nat, ref = (j : Int) := ⟨ref.toNat, by omega⟩
 have hrj : rs[jr]? = some (getA rs ref) := by rw [show jr = ref.toNat by omega]; exact hrat
 have hge := hrv.ge _ (List.mem_of_getElem? hrj)
 have hokt := hrv.inn.tok _ htm
 have hdep : 0 ≤ (trkA ts (getA rs ref).track).deposit ∧ (trkA ts (getA rs ref).track).deposit ≤ 1073741824 := hokt.2.1
 have hK0 : Keep (fun q => H q ∨ F q) w w := Keep.refl _ _
 refine enterM Tryz.func68 rfl [pt z, pt y, nt ref, nt st, nt now] 40 rfl rfl rfl ?_
 refine Vp [(0, pt z),(1, pt y),(2, nt ref),(3, nt st),(4, nt now)] <| Vr <| Alc_ 52 (.agg #[nt 0, nt 0, nt 0]) [nt 0, nt 0, nt 0] ?_
 intro b1 w1 e1 hb1 k1 z1
 have hsz2 := Keep.size k1
 replace hz := hz.k0 k1
 replace hB := hB.keep0 k1
 replace hV := DVt.keep hV k1 nk
 replace hK0 := hK0.tn k1
 have hb1lt := hb1.lt
 refine Oer <| On 3 [1, 2, 3, 4, 10, 14] <| Lr 1 (.slice B rs.length capb) hz <| On 5 [1, 2, 3, 4, 10, 15, 16] ?_
 obtain ⟨b3, o3, L3, T3, rfl, hat3⟩ := SlT.opn hB
 have hb3lt := hat3.blk.lt
 have hob4 := hBz b3 ⟨_, rfl, rfl⟩
 have hob5 := hBlt b3 ⟨_, rfl, rfl⟩
 have hne6 : ∀ q, inA A q → q ≠ b3 := fun q hq hs => hdz.ab q hq ⟨_, rfl, hs⟩
 have own7 := fun q hq => And.intro (hAz q hq) (hne6 q hq)
 have hne8 : ∀ q, F q → q ≠ b3 := fun q hq hs => dFB q hq ⟨_, rfl, hs⟩
 have own9 := fun q hq => And.intro (hFo q hq) (hne8 q hq)
 refine Op_ [(1, pt y),(2, nt ref),(3, nt st),(4, nt now),(10, pt b1),(15, sl_ b3 o3 rs.length capb),(16, nt ref)] <| Oq (u := nt ref) (v := nt (jr : Int)) 16 (by rw [hjr]) <| Oi (b := b3) (o := o3) (len := rs.length) (cap := capb) (j := jr) (some 17) 96 (.tmp 15) (.tmp 16) 44 45 136 .i64 <| On 7 [1, 2, 3, 4, 10, 11] <| Oer <| On 7 [1, 2, 3, 4, 10, 18, 19, 20, 21, 22, 23, 24] <| Kk (dtally_spec F y s ref _ hV) fun w10 hk11 _ => ?_
 replace hz := hz.k0 hk11
 replace hb1 := hb1.k0 hk11
 replace hat3 := hat3.keep hk11 id
 replace hA := hA.keep0 (k1.tr hk11)
 replace hV := DVt.keep hV hk11 nk
 replace hK0 := hK0.tn hk11
 refine On 10 [1, 2, 3, 4, 10, 19, 20, 21, 22, 25, 27] <| Ts1 ({ (getA rs ref) with state := st } : Rfm) 0 (nt st) hat3 hrj (by kernel_rfl) ?_
 intro w13 hat17 hk15 hz16 hlhx18 hx18
 have hsz19 := Keep.size hk15
 replace hz := hz.k1 hk15
 replace hb1 := hb1.k1 hk15
 replace hA := hA.keep hk15 (fun q hq hs => by have hs : q = b3 := hs; have g0 := own7 q hq; have g1 := hAlt q hq; omega)
 replace hV := DVt.keep hV hk15 (fun q hq hs => by have hs : q = b3 := hs; have g0 := own9 q hq; have g1 := hFlt q hq; omega)
 replace hK0 := Keep.fresh hK0 hk15 (by intro i hi hs; have hs2 : i = b3 := hs; first | (exfalso; omega) | (rw [hs2]; first | exact .inl (hdz.zb _ ⟨_, rfl, rfl⟩).1 | exact (hdz.zb _ ⟨_, rfl, rfl⟩).1))
 refine On 13 [1, 2, 3, 4, 10, 20, 22, 25, 29] <| Tss1 ({ ({ (getA rs ref) with state := st }) with stop := now } : Rfm) 41 (nt now) hat17 hx18 (by kernel_rfl) ?_
 intro w20 hat24 hk22 hz23 hlhx25 hx25
 have hsz26 := Keep.size hk22
 replace hz := hz.k1 hk22
 replace hb1 := hb1.k1 hk22
 replace hA := hA.keep hk22 (fun q hq hs => by have hs : q = b3 := hs; have g0 := own7 q hq; have g1 := hAlt q hq; omega)
 replace hV := DVt.keep hV hk22 (fun q hq hs => by have hs : q = b3 := hs; have g0 := own9 q hq; have g1 := hFlt q hq; omega)
 replace hK0 := Keep.fresh hK0 hk22 (by intro i hi hs; have hs2 : i = b3 := hs; first | (exfalso; omega) | (rw [hs2]; first | exact .inl (hdz.zb _ ⟨_, rfl, rfl⟩).1 | exact (hdz.zb _ ⟨_, rfl, rfl⟩).1))
 refine On 16 [1, 2, 3, 4, 10, 25, 31] <| TssN (m := 3) ({ ({ ({ (getA rs ref) with state := st }) with stop := now }) with t := (tallyT s ref) } : Rfm) 42 (Tly.cells (tallyT s ref)) hat24 hx25 (by kernel_rfl) (Tly.len _) (Tly.one _) ?_
 intro w27 hat31 hk29 hz30 hlhx32 hx32
 have hsz33 := Keep.size hk29
 replace hz := hz.k1 hk29
 replace hb1 := hb1.k1 hk29
 replace hA := hA.keep hk29 (fun q hq hs => by have hs : q = b3 := hs; have g0 := own7 q hq; have g1 := hAlt q hq; omega)
 replace hV := DVt.keep hV hk29 (fun q hq hs => by have hs : q = b3 := hs; have g0 := own9 q hq; have g1 := hFlt q hq; omega)
 replace hK0 := Keep.fresh hK0 hk29 (by intro i hi hs; have hs2 : i = b3 := hs; first | (exfalso; omega) | (rw [hs2]; first | exact .inl (hdz.zb _ ⟨_, rfl, rfl⟩).1 | exact (hdz.zb _ ⟨_, rfl, rfl⟩).1))
 refine Oer <| On 4 [2, 3, 10, 32, 33, 34, 35] <| Kg (dcls_spec F y s ref st now _ hV) ?_
 rintro _ w36 ⟨rfl, ⟨F38, ho39, hfr40⟩, hk37⟩
 refine ⟨_, rfl, ?_⟩
 have hsz41 := Keep.size hk37
 replace hz := hz.keep hk37 (fun hs => by have h1 := own9 _ hs; have h2 := hFlt _ hs; omega)
 replace hb1 := hb1.keep hk37 (fun hs => by have h1 := own9 _ hs; have h2 := hFlt _ hs; omega)
 replace hat31 := hat31.keep hk37 (fun hs => by have h1 := own9 _ hs; have h2 := hFlt _ hs; omega)
 replace hA := hA.keep hk37 (fun q hq hs => dFA q hs hq)
 replace hK0 := Keep.fresh hK0 hk37 (fun i hi hs => by rcases hFr i hs with h | h; exact .inr <| h; (exfalso; omega))
 have own43 : ∀ q, F38 q → q ≠ z ∧ q ≠ b3 ∧ q ≠ z ∧ q ≠ b1 := fun q hq => by rcases hfr40 q hq with h | h; (have h1 := own9 q h; have h2 := hFlt q h; omega); omega
 have lt42 := DVt.lt ho39
 have rel44 : ∀ q, F38 q → F q ∨ w.heap.size ≤ q := fun q hq => by rcases hfr40 q hq with h | h; exact hFr q h; exact .inr (by omega)
 have dis45 : ∀ q, F38 q → ¬ inA A q := fun q h1 h2 => by rcases hfr40 q h1 with h | h; exact dFA q h h2; (have h4 := hAlt q h2; omega)
 refine Oer <| Os 3 [(10, pt b1),(39, .agg (Evt.cells (Evt.mk 1 ref st)).toArray)] <| Sg 0 (Evt.cells (Evt.mk 1 ref st)) hb1 (Evt.len _) (Evt.one _) ?_
 intro w46 hb1_49 hk47 hz48
 replace hb1_49 : Blk w46 b1 (Evt.cells (Evt.mk 1 ref st)) 52 := (by rwa [over_whole (by rw [Evt.len]; rfl)] at hb1_49)
 have hsz50 := Keep.size hk47
 replace hz := hz.k1 hk47
 replace hat31 := hat31.keep hk47 (by show ¬ (_ = _); omega)
 replace hA := hA.keep hk47 (fun q hq hs => by have hs : q = b1 := hs; have g0 := own7 q hq; have g1 := hAlt q hq; omega)
 replace hK0 := Keep.fresh hK0 hk47 (by intro i hi hs; have hs2 : i = b1 := hs; first | (exfalso; omega) | (rw [hs2]; first | exact .inl (hdz.zb _ ⟨_, rfl, rfl⟩).1 | exact (hdz.zb _ ⟨_, rfl, rfl⟩).1))
 replace ho39 := DVt.keep ho39 hk47 (fun q hq hs => by have hs : q = b1 := hs; have g0 := own43 q hq; have g1 := lt42 q hq; omega)
 refine Oe <| V_ret ?_
 have h451 : endR s rs ref st now = rs.set jr ({ ({ ({ (getA rs ref) with state := st }) with stop := now }) with t := (tallyT s ref) }) := by unfold endR endY; rw [show ref.toNat = jr by omega]
 exact leave0 (.agg (Evt.cells (Evt.mk 1 ref st)).toArray) (.inl rfl) (res_agg1 (m := 3) rfl rfl (by kernel_rfl) hb1_49 rfl) ⟨rfl, ⟨H, F38, (by rw [h451]; exact ⟨(RInv.set hrv htr hge), hHz, (ltm hHlt), _, _, _, _, ⟨by (try simp only [List.length_set]); exact hz, hA, At.slt hat31, hdz.za, hdz.zb, hdz.ab⟩⟩), ho39, hHr, rel44, (fun q h1 h2 => by rcases rel44 q h2 with h | h; exact hHF q h1 h; (have h9 := hHlt q h1; omega))⟩, hK0⟩
end Go.Al
namespace Go.Al
open Go Go.RowKit Go.Proofs
set_option maxHeartbeats 1000000 in
theorem rcan12_spec (H : Nat → Prop) (z : Nat) (ts : List Trk) (rs : List Rfm) (F : Nat → Prop) (y : Nat) (s : VS) (ref now : Int) (w : World) (h : DRf H w z ts rs) (hV : DVt F w y s) (hHF : ∀ q, H q → ¬ F q) : Calls Tryz.prog 33 #[pt z, pt y, nt ref, nt now] w fun e w' => ∃ A' cap', e = .returned (.tuple #[.slice A' (canL rs ref).length cap', nt (ongE rs ref)]) ∧ SlT w' 3 Evt.cells A' cap' (canL rs ref) ∧ (∀ q, inA A' q → w.heap.size ≤ q) ∧ (∃ H' F', DRf H' w' z ts (canR s rs ref now) ∧ DVt F' w' y (canS s rs ref now) ∧ (∀ q, H' q → H q ∨ w.heap.size ≤ q) ∧ (∀ q, F' q → F q ∨ w.heap.size ≤ q) ∧ (∀ q, H' q → ¬ F' q) ∧ (∀ q, inA A' q → ¬ H' q) ∧ (∀ q, inA A' q → ¬ F' q)) ∧ Keep (fun q => H q ∨ F q) w w' := by
 have hHlt := DRf.lt h
 have hzlt := hHlt _ (DRf.at_ h)
 have hHr : ∀ q, H q → H q ∨ w.heap.size ≤ q := fun _ h => .inl h
 have hFlt := DVt.lt hV
 have hylt := hFlt _ (DVt.at_ hV)
 have hFr : ∀ q, F q → F q ∨ w.heap.size ≤ q := fun _ h => .inl h
 have hK0 : Keep (fun q => H q ∨ F q) w w := Keep.refl _ _
 refine eV ?_
 refine Vr <| On 2 [0, 1, 2, 3] <| Oer <| On 2 [0, 1, 2, 3, 11, 12] <| Kk (rmay_spec H z ts rs ref _ h) fun w1 hk2 _ => ?_
 replace h := DRf.keep h hk2 nk
 replace hV := DVt.keep hV hk2 nk
 replace hK0 := hK0.tn hk2
 refine On 4 [0, 1, 2, 3, 10] <| Oe <| V_seq <| Vn [0, 1, 2, 3, 10, 15] <| V_not (ongE rs ref = 0) (by kernel_rfl) (fun hc4 => ?_) (fun hc4 => ?_)
 ·
  refine Vn [8, 9] <| Rt ?_
  obtain ⟨h15, h25, h35, _⟩ := can_no (s := s) (now := now) (xs := []) (ts := ts) (rs := rs) (ref := ref) rfl hc4
  exact Xr (.tuple #[.slice none 0 0, nt (ongE rs ref)]) ⟨none, 0, by rw [h35]; rfl, by rw [h35]; exact SlT.nil _ _ _, (fun q h => (inA_none h).elim), ⟨H, F, (by rw [h15]; exact h),(by rw [h25]; exact hV), hHr, hFr, hHF, fun q h => (inA_none h).elim, fun q h => (inA_none h).elim⟩, hK0⟩
 refine Vsk <| Vr <| On 4 [17, 18, 19, 20] <| Kg (rend12_spec H z ts rs F y s ref 5 now _ h hV hHF (ong_some hc4)) ?_
 rintro _ w8 ⟨rfl, ⟨F10, F13, ho11, ho14, hfr12, hfr15, hdis16⟩, hk9⟩
 refine ⟨_, rfl, ?_⟩
 have hsz17 := Keep.size hk9
 replace hK0 := Keep.fresh hK0 hk9 (fun i hi hs => by rcases hs with hs | hs; (rcases hHr i hs with h | h; exact .inl h; (exfalso; omega)); (rcases hFr i hs with h | h; exact .inr <| h; (exfalso; omega)))
 have lt18 := DRf.lt ho11
 have rel19 : ∀ q, F10 q → H q ∨ w.heap.size ≤ q := fun q hq => by rcases hfr12 q hq with h | h; exact hHr q h; exact .inr (by omega)
 have lt20 := DVt.lt ho14
 have rel21 : ∀ q, F13 q → F q ∨ w.heap.size ≤ q := fun q hq => by rcases hfr15 q hq with h | h; exact hFr q h; exact .inr (by omega)
 refine OI_slit (E := 52) (zv := .agg #[nt 0, nt 0, nt 0]) (sz := 3) (by_ := 24) 27 1 #[(0, (Operand.tmp 21))] [.agg (Evt.cells (Evt.mk 1 ref 5)).toArray] (Evt.cells (Evt.mk 1 ref 5)) (some 22) (by kernel_rfl) (by kernel_rfl) (by kernel_rfl) (by omega) rfl (by omega) (by intro v hv; obtain rfl := List.mem_singleton.1 hv; show (Evt.cells (Evt.mk 1 ref 5)).toArray.size = 3; simp [Evt.len]) (by kernel_rfl) (by show (Evt.cells (Evt.mk 1 ref 5)).toArray.toList ++ [] = _; simp) ?_
 intro b22 w22 e22 hb22 k22 z22
 have hsz23 := Keep.size k22
 replace hK0 := hK0.tn k22
 replace ho11 := DRf.keep ho11 k22 nk
 replace ho14 := DVt.keep ho14 k22 nk
 have hb22lt := hb22.lt
 refine Oen [8, 9] <| V_ret ?_
 have hE24 : ongE rs ref = 0 := hc4
 obtain ⟨h124, h224, h324⟩ := can_go (s := s) (now := now) hE24
 exact Xr (.tuple #[sl_ b22 0 1 1, nt 0]) ⟨(some ⟨b22, 0, none⟩), 1, by rw [h324, hE24]; rfl, by rw [h324]; exact slt_blk hb22 Evt.len rfl, (fun q h => by have h3 := inA_some h; omega), ⟨F10, F13, (by rw [h124]; exact ho11),(by rw [h224]; exact ho14), rel19, rel21, hdis16, fun q h1 h2 => by have h3 := inA_some h1; have h4 := lt18 q h2; omega, fun q h1 h2 => by have h3 := inA_some h1; have h4 := lt20 q h2; omega⟩, hK0⟩
end Go.Al
namespace Go.Al
open Go Go.RowKit Go.Proofs
section
variable {y : Rfm}
def kilY (y : Rfm) : Rfm := { y with put := false, backer := -1 }
theorem kil_pb : { { y with put := false } with backer := -1 } = kilY y := rfl
theorem kil_p (hb : y.backer = -1) : { y with put := false } = kilY y := by unfold kilY; rw [← hb]
theorem kil_b (hp : y.put = false) : { y with backer := -1 } = kilY y := by unfold kilY; rw [← hp]
theorem kil_0 (hp : y.put = false) (hb : y.backer = -1) : y = kilY y := by unfold kilY; rw [← hp, ← hb]
end
set_option maxHeartbeats 2000000 in
theorem rkil12_go (H : Nat → Prop) (z : Nat) (ts : List Trk) (rs : List Rfm) (F : Nat → Prop) (y : Nat) (s : VS) (G : Nat → Prop) (x : Nat) (xs : List Acc) (cs : List Ci) (ref now : Int) (w : World) (h : DRf H w z ts rs) (hV : DVt F w y s) (hl : DLd G w x xs cs) (hHF : ∀ q, H q → ¬ F q) (hHG : ∀ q, H q → ¬ G q) (hFG : ∀ q, F q → ¬ G q) (hong : ongE rs ref = 0) : Calls Tryz.prog 34 #[pt z, pt x, pt y, nt ref, nt now] w fun e w' => ∃ A' cap', e = .returned (.tuple #[.slice A' (kilL xs ts rs ref).length cap', nt (ongE rs ref)]) ∧ SlT w' 3 Evt.cells A' cap' (kilL xs ts rs ref) ∧ (∀ q, inA A' q → w.heap.size ≤ q) ∧ (∃ H' F' G', DRf H' w' z ts (kilR s rs ref now) ∧ DVt F' w' y (kilS s rs ref now) ∧ DLd G' w' x (kilX xs ts rs ref) cs ∧ (∀ q, H' q → H q ∨ w.heap.size ≤ q) ∧ (∀ q, F' q → F q ∨ w.heap.size ≤ q) ∧ (∀ q, G' q → G q ∨ w.heap.size ≤ q) ∧ (∀ q, H' q → ¬ F' q) ∧ (∀ q, H' q → ¬ G' q) ∧ (∀ q, F' q → ¬ G' q) ∧ (∀ q, inA A' q → ¬ H' q) ∧ (∀ q, inA A' q → ¬ F' q) ∧ (∀ q, inA A' q → ¬ G' q)) ∧ Keep (fun q => H q ∨ F q ∨ G q) w w' := by
 have hHlt := DRf.lt h
 have hzlt := hHlt _ (DRf.at_ h)
 have hHr : ∀ q, H q → H q ∨ w.heap.size ≤ q := fun _ h => .inl h
 have hFlt := DVt.lt hV
 have hylt := hFlt _ (DVt.at_ hV)
 have hFr : ∀ q, F q → F q ∨ w.heap.size ≤ q := fun _ h => .inl h
 have hGlt := DLd.lt hl
 have hxlt := hGlt _ (DLd.at_ hl)
 have hGr : ∀ q, G q → G q ∨ w.heap.size ≤ q := fun _ h => .inl h
 have hrv := DRf.rinv h
 have hx := ong_some hong
 obtain ⟨href, htr, hrat⟩ := getA_at hrv.inn hx
 obtain ⟨jt, hjt, hjl, htk, htm⟩ := trkA_at htr
 obtain ⟨jr, hjr⟩ : ∃ j : Nat, ref = (j : Int) := ⟨ref.toNat, by omega⟩
 have hrj : rs[jr]? = some (getA rs ref) := by rw [show jr = ref.toNat by omega]; exact hrat
 have hge := hrv.ge _ (List.mem_of_getElem? hrj)
 have hokt := hrv.inn.tok _ htm
 have hdep : 0 ≤ (trkA ts (getA rs ref).track).deposit ∧ (trkA ts (getA rs ref).track).deposit ≤ 1073741824 := hokt.2.1
 have hK0 : Keep (fun q => H q ∨ F q ∨ G q) w w := Keep.refl _ _
 refine eV ?_
 refine Vr <| On 2 [0, 1, 2, 3, 4] <| Oer <| On 2 [0, 1, 2, 3, 4, 15, 16] <| Kk (rmay_spec H z ts rs ref _ h) fun w1 hk2 _ => ?_
 replace h := DRf.keep h hk2 nk
 replace hV := DVt.keep hV hk2 nk
 replace hl := DLd.keep hl hk2 nk
 replace hK0 := hK0.tn hk2
 refine On 4 [0, 1, 2, 3, 4, 12] <| Oe <| V_seq <| Vn [0, 1, 2, 3, 4, 12, 19] <| Vq (u := .bool (!(decide (ongE rs ref = 0)))) (v := .bool false) 19 (by rw [decide_eq_true hong]; rfl) <| Vf <| Vsk <| Vr <| On 4 [0, 1, 3, 21, 22, 23, 24] <| Kg (rend12_spec H z ts rs F y s ref 6 now _ h hV hHF (ong_some hong)) ?_
 rintro _ w7 ⟨rfl, ⟨F9, F12, ho10, ho13, hfr11, hfr14, hdis15⟩, hk8⟩
 refine ⟨_, rfl, ?_⟩
 have hsz16 := Keep.size hk8
 replace hl := DLd.keep hl hk8 (fun q hq hs => by rcases hs with hs | hs; exact hHG q hs hq; exact hFG q hs hq)
 replace hK0 := Keep.fresh hK0 hk8 (fun i hi hs => by rcases hs with hs | hs; (rcases hHr i hs with h | h; exact .inl h; (exfalso; omega)); (rcases hFr i hs with h | h; exact .inr <| .inl h; (exfalso; omega)))
 have lt17 := DRf.lt ho10
 have rel18 : ∀ q, F9 q → H q ∨ w.heap.size ≤ q := fun q hq => by rcases hfr11 q hq with h | h; exact hHr q h; exact .inr (by omega)
 have dis19 : ∀ q, F9 q → ¬ G q := fun q h1 h2 => by rcases hfr11 q h1 with h | h; exact hHG q h h2; (have h4 := hGlt q h2; omega)
 have lt20 := DVt.lt ho13
 have rel21 : ∀ q, F12 q → F q ∨ w.heap.size ≤ q := fun q hq => by rcases hfr14 q hq with h | h; exact hFr q h; exact .inr (by omega)
 have dis22 : ∀ q, F12 q → ¬ G q := fun q h1 h2 => by rcases hfr14 q h1 with h | h; exact hFG q h h2; (have h4 := hGlt q h2; omega)
 refine OI_slit (E := 52) (zv := .agg #[nt 0, nt 0, nt 0]) (sz := 3) (by_ := 24) 27 1 #[(0, (Operand.tmp 25))] [.agg (Evt.cells (Evt.mk 1 ref 6)).toArray] (Evt.cells (Evt.mk 1 ref 6)) (some 26) (by kernel_rfl) (by kernel_rfl) (by kernel_rfl) (by omega) rfl (by omega) (by intro v hv; obtain rfl := List.mem_singleton.1 hv; show (Evt.cells (Evt.mk 1 ref 6)).toArray.size = 3; simp [Evt.len]) (by kernel_rfl) (by show (Evt.cells (Evt.mk 1 ref 6)).toArray.toList ++ [] = _; simp) ?_
 intro b23 w23 e23 hb23 k23 z23
 have hsz24 := Keep.size k23
 replace hl := DLd.keep hl k23 nk
 replace hK0 := hK0.tn k23
 replace ho10 := DRf.keep ho10 k23 nk
 replace ho13 := DVt.keep ho13 k23 nk
 have hb23lt := hb23.lt
 refine On 7 [0, 1, 3, 13] <| Oer <| On 3 [0, 1, 3, 13, 29] ?_
 obtain ⟨R1, hR1⟩ : ∃ q, q = (endR s rs ref 6 now) := ⟨_, rfl⟩
 rw [← hR1] at ho10
 obtain ⟨hrv25, hHz25, hHlt25, A25, cap25, B25, capb25, hdz25⟩ := ho10
 have hz25 := hdz25.blk
 have hA25 := hdz25.tl
 have hB25 := hdz25.rl
 have hz25lt := lt17 _ hHz25
 have hrl25 := hrv25.inn.rl
 have htl25 := hrv25.inn.tl
 have owA25 : ∀ q, inA A25 q → q ≠ z ∧ q ≠ b23 := fun q hq => by obtain ⟨h1, h4⟩ := hdz25.za q hq; have h2 := lt17 q h1; omega
 have ltA25 := fun q (hq : inA A25 q) => lt17 q (hdz25.za q hq).1
 have owB25 : ∀ q, inA B25 q → q ≠ z ∧ q ≠ b23 := fun q hq => by obtain ⟨h1, h4⟩ := hdz25.zb q hq; have h2 := lt17 q h1; omega
 have ltB25 := fun q (hq : inA B25 q) => lt17 q (hdz25.zb q hq).1
 have own26 : ∀ q, G q → q ≠ z := fun q hq e => dis19 z hHz25 (by rw [← e]; exact hq)
 have own27 : ∀ q, F12 q → q ≠ z := fun q hq e => hdis15 z hHz25 (by rw [← e]; exact hq)
 have hR1l : R1.length = rs.length := by rw [hR1]; exact (endR_at hx).2.2
 have hR1j : R1[jr]? = some (endY s (getA rs ref) ref 6 now) := by rw [hR1]; unfold endR; rw [show ref.toNat = jr by omega]; exact List.getElem?_set_self (by omega)
 have hsl28 : SlT w23 3 Evt.cells (some ⟨b23, 0, none⟩) 1 [Evt.mk 1 ref 6] := slt_blk hb23 Evt.len rfl
 have lt30 := SlT.lt hsl28
 have own29 : ∀ q, inA (some ⟨b23, 0, none⟩) q → w.heap.size ≤ q ∧ q ≠ z := fun q hq => by have h1 := inA_some hq; omega
 have dis31 : ∀ q, inA (some ⟨b23, 0, none⟩) q → ¬ inA A25 q := fun q h1 h2 => by have h3 := inA_some h1; have h4 := ltA25 q h2; omega
 have dis32 : ∀ q, inA (some ⟨b23, 0, none⟩) q → ¬ inA B25 q := fun q h1 h2 => by have h3 := inA_some h1; have h4 := ltB25 q h2; omega
 have dis33 : ∀ q, inA (some ⟨b23, 0, none⟩) q → ¬ G q := fun q h1 h2 => by have h3 := inA_some h1; have h4 := hGlt q h2; omega
 have dis34 : ∀ q, inA (some ⟨b23, 0, none⟩) q → ¬ F12 q := fun q h1 h2 => by have h3 := inA_some h1; have h4 := lt20 q h2; omega
 have dis35 : ∀ q, inA (some ⟨b23, 0, none⟩) q → ¬ F9 q := fun q h1 h2 => by have h3 := inA_some h1; have h4 := lt17 q h2; omega
 have hsl28l : [Evt.mk 1 ref 6].length = 1 := rfl
 refine Lr 1 (.slice B25 R1.length capb25) hz25 <| On 5 [0, 1, 13, 30, 31] ?_
 obtain ⟨b36, o36, L36, T36, rfl, hat36⟩ := SlT.opn hB25
 have hb36lt := hat36.blk.lt
 have hob37 := owB25 b36 ⟨_, rfl, rfl⟩
 have hob38 := ltB25 b36 ⟨_, rfl, rfl⟩
 have hne39 : ∀ q, inA A25 q → q ≠ b36 := fun q hq hs => hdz25.ab q hq ⟨_, rfl, hs⟩
 have own40 := fun q hq => And.intro (owA25 q hq) (hne39 q hq)
 have hne41 : ∀ q, inA (some ⟨b23, 0, none⟩) q → q ≠ b36 := fun q hq hs => dis32 q hq ⟨_, rfl, hs⟩
 have own42 := fun q hq => And.intro (own29 q hq) (hne41 q hq)
 have hne43 : ∀ q, G q → q ≠ b36 := fun q hq hs => (fun q h1 h2 => dis19 q (hdz25.zb q h2).1 h1) q hq ⟨_, rfl, hs⟩
 have own44 := fun q hq => And.intro (own26 q hq) (hne43 q hq)
 have hne45 : ∀ q, F12 q → q ≠ b36 := fun q hq hs => (fun q h1 h2 => hdis15 q (hdz25.zb q h2).1 h1) q hq ⟨_, rfl, hs⟩
 have own46 := fun q hq => And.intro (own27 q hq) (hne45 q hq)
 refine Op_ [(0, pt z),(1, pt x),(13, sl_ b23 0 1 1),(30, sl_ b36 o36 R1.length capb25),(31, nt ref)] <| Oq (u := nt ref) (v := nt (jr : Int)) 31 (by rw [hjr]) <| Oi (b := b36) (o := o36) (len := R1.length) (cap := capb25) (j := jr) (some 32) 96 (.tmp 30) (.tmp 31) 44 45 136 .i64 <| On 7 [0, 1, 13, 14] <| Oe <| V_seq <| Vr <| On 3 [0, 1, 13, 14, 35] <| Lc (o36 + jr * 45 + 37) (.bool ((getA rs ref).put)) hat36.blk (At.cell hat36 (es_at hR1j) rfl) <| Oe <| Vb ((getA rs ref).put) (fun hc47 => ?_) (fun hc47 => ?_)
 ·
  refine V_seq <| V_draws (acts [10, 12, 13, 14]) G [[0, 5, 6, 7, 8, 9, 10, 1, 2, 3, 4, 11, 12, 13, 14]] (by kernel_rfl) (by repeat first | exact (by first | exact sure_body (by rintro _ _ ⟨_, _, h, _⟩; exact ⟨_, h⟩) | exact sure_body (by rintro _ _ ⟨_, _, h, _⟩; exact ⟨_, h⟩) | exact sure_body (by rintro _ _ ⟨h, _⟩; exact ⟨_, h⟩)) | refine sure_then ?_ | refine sure_block ?_ | refine sure_join ?_) (by kernel_rfl) ?_
  intro w49 hk48 he50 L hL51
  have hsz52 := Keep.size hk48
  replace hz25 := hz25.k0 hk48
  replace hat36 := hat36.keep hk48 id
  replace hA25 := hA25.keep0 hk48
  replace hsl28 := hsl28.keep0 hk48
  replace hl := DLd.keep hl hk48 nk
  replace hK0 := hK0.tn hk48
  replace ho13 := DVt.keep ho13 hk48 nk
  skip
  have qhz25 := hz25
  have qhat36 := hat36
  have K53 : Keep G w49 w49 := Keep.refl _ _
  obtain rfl := List.mem_singleton.1 hL51
  refine Gn [9, 10, 1, 2, 3, 4, 11, 12, 13, 14] [0, 1, 14, 37, 42, 45] <| Mc (o36 + jr * 45 + 36) (nt ((getA rs ref).by_)) qhat36.blk (fun hs => by have h1 := own44 _ hs; omega) (At.cell qhat36 (es_at hR1j) rfl) <| Hg (slash6_spec G x xs cs ((getA rs ref).by_) 10 _ hl) ?_
  rintro _ w54 ⟨rfl, ⟨F56, ho57, hfr58⟩, hk55⟩
  have K59 := Keep.fresh K53 hk55 (by intro i hi hs; first | exact hs | (exfalso; have h1 := own44 i hs; have h2 := hGlt i hs; omega) | (have h1 := own44 i hs; have h2 := hGlt i hs; show _ ∨ _; omega))
  refine ⟨_, rfl, K59, ?_⟩
  have hzK59 := Keep.size K59
  have hsz60 := Keep.size hk55
  replace hz25 := hz25.keep hk55 (fun hs => by have h1 := own44 _ hs; have h2 := hGlt _ hs; omega)
  replace hat36 := hat36.keep hk55 (fun hs => by have h1 := own44 _ hs; have h2 := hGlt _ hs; omega)
  replace hA25 := hA25.keep hk55 (fun q hq hs => (fun q h1 h2 => dis19 q (hdz25.za q h2).1 h1) q hs hq)
  replace hsl28 := hsl28.keep hk55 (fun q hq hs => dis33 q hq hs)
  replace hK0 := Keep.fresh hK0 hk55 (fun i hi hs => by rcases hGr i hs with h | h; exact .inr <| .inr <| h; (exfalso; omega))
  replace ho13 := DVt.keep ho13 hk55 (fun q hq hs => dis22 q hq hs)
  skip
  have own62 : ∀ q, F56 q → 0 ≤ q ∧ q ≠ b36 ∧ q ≠ z := fun q hq => by rcases hfr58 q hq with h | h; (have h1 := own44 q h; have h2 := hGlt q h; omega); omega
  have lt61 := DLd.lt ho57
  have rel63 : ∀ q, F56 q → G q ∨ w.heap.size ≤ q := fun q hq => by rcases hfr58 q hq with h | h; exact hGr q h; exact .inr (by omega)
  have dis64 : ∀ q, F56 q → ¬ inA A25 q := fun q h1 h2 => by rcases hfr58 q h1 with h | h; exact (fun q h1 h2 => dis19 q (hdz25.za q h2).1 h1) q h h2; (have h4 := ltA25 q h2; omega)
  have dis65 : ∀ q, F56 q → ¬ inA (some ⟨b23, 0, none⟩) q := fun q h1 h2 => by rcases hfr58 q h1 with h | h; exact dis33 q h2 h; (have h4 := lt30 q h2; omega)
  have dis66 : ∀ q, F56 q → ¬ F12 q := fun q h1 h2 => by rcases hfr58 q h1 with h | h; exact dis22 q h2 h; (have h4 := lt20 q h2; omega)
  have dis67 : ∀ q, F56 q → ¬ F9 q := fun q h1 h2 => by rcases hfr58 q h1 with h | h; exact dis19 q h2 h; (have h4 := lt17 q h2; omega)
  refine Gn [4, 11, 12, 13, 14] [0, 1, 14, 37, 40, 47] <| Mc (o36 + jr * 45 + 36) (nt ((getA rs ref).by_)) qhat36.blk (fun hs => by have h1 := own44 _ hs; omega) (At.cell qhat36 (es_at hR1j) rfl) <| Gn [12, 13, 14] [0, 1, 14, 37, 48] <| GI_final 12 (by kernel_rfl) (by kernel_rfl) <| OI_slit (E := 52) (zv := .agg #[nt 0, nt 0, nt 0]) (sz := 3) (by_ := 24) 27 1 #[(0, (Operand.tmp 48))] [.agg #[nt 6, nt ((getA rs ref).by_), nt (tkN xs ((getA rs ref).by_) 10)]] [nt 6, nt ((getA rs ref).by_), nt (tkN xs ((getA rs ref).by_) 10)] (some 49) (by kernel_rfl) (by kernel_rfl) (by kernel_rfl) (by omega) rfl (by omega) (by intro v hv; simp only [List.mem_cons, List.not_mem_nil, or_false] at hv; rcases hv with rfl <;> rfl) (by kernel_rfl) rfl ?_
  intro b68 w68 e68 hb68 k68 z68
  have hsz69 := Keep.size k68
  replace hz25 := hz25.k0 k68
  replace hat36 := hat36.keep k68 id
  replace hA25 := hA25.keep0 k68
  replace hsl28 := hsl28.keep0 k68
  replace hK0 := hK0.tn k68
  replace ho13 := DVt.keep ho13 k68 nk
  skip
  replace ho57 := DLd.keep ho57 k68 nk
  have hb68lt := hb68.lt
  refine OI_append (t := 27) (at2 := 27) (E := 52) (E2 := 52) (sz := 3) (by_ := 24) (zv := .agg #[nt 0, nt 0, nt 0]) (m := [Evt.mk 1 ref 6].length) (k := 1) (.tmp 37) (.tmp 49) (sl_ b23 0 1 1) (sl_ b68 0 1 1) (some 50) (by kernel_rfl) (by kernel_rfl) (by kernel_rfl) (by kernel_rfl) (by kernel_rfl) (by kernel_rfl) (by kernel_rfl) (SlT.slr hsl28) (slr_one hb68 (Evt.len (Evt.mk 6 ((getA rs ref).by_) (tkN xs ((getA rs ref).by_) 10)))) (Evt.one (Evt.mk 6 ((getA rs ref).by_) (tkN xs ((getA rs ref).by_) 10))) (by first | omega | (simp only [List.length_nil]; omega)) (by omega) (by first | omega | (simp only [List.length_nil]; omega)) (by omega) ?_
  intro vv9 w70 hap
  obtain ⟨A70, cap70, rfl, hA70, hk70, own70x⟩ := app_one (f := Evt.cells) (xs := [Evt.mk 1 ref 6]) (x := (Evt.mk 6 ((getA rs ref).by_) (tkN xs ((getA rs ref).by_) 10))) (A := (some ⟨b23, 0, none⟩)) (cap := 1) hap (fun x _ => Evt.len x) (Evt.len _)
  have own70 : ∀ q, inA A70 q → (w.heap.size ≤ q ∧ q ≠ z) ∧ q ≠ b36 := fun q hq => by rcases own70x q hq with h | h; exact own42 q h; (show (w.heap.size ≤ q ∧ q ≠ z) ∧ q ≠ b36; omega)
  have hsz71 := Keep.size hk70
  replace hz25 := hz25.keep hk70 (fun hs => by have h1 := own42 _ hs; have h2 := lt30 _ hs; omega)
  replace hat36 := hat36.keep hk70 (fun hs => by have h1 := own42 _ hs; have h2 := lt30 _ hs; omega)
  replace hA25 := hA25.keep hk70 (fun q hq hs => dis31 q hs hq)
  replace hK0 := Keep.fresh hK0 hk70 (by intro i hi hs; first | exact hs | (exfalso; have h1 := own42 i hs; have h2 := lt30 i hs; omega) | (have h1 := own42 i hs; have h2 := lt30 i hs; show _ ∨ _; omega))
  replace ho13 := DVt.keep ho13 hk70 (fun q hq hs => dis34 q hs hq)
  skip
  replace ho57 := DLd.keep ho57 hk70 (fun q hq hs => dis65 q hq hs)
  have lt70 := SlT.lt hA70
  have dis72 : ∀ q, inA A70 q → ¬ F12 q := fun q h1 h2 => by rcases own70x q h1 with h | h; exact dis34 q h h2; (have h4 := lt20 q h2; omega)
  have dis73 : ∀ q, inA A70 q → ¬ F9 q := fun q h1 h2 => by rcases own70x q h1 with h | h; exact dis35 q h h2; (have h4 := lt17 q h2; omega)
  have dis74 : ∀ q, inA A70 q → ¬ F56 q := fun q h1 h2 => by rcases own70x q h1 with h | h; exact dis65 q h2 h; (have h4 := lt61 q h2; omega)
  have dis75 : ∀ q, inA A70 q → ¬ inA A25 q := fun q h1 h2 => by rcases own70x q h1 with h | h; exact dis31 q h h2; (have h4 := ltA25 q h2; omega)
  have hlA70 : ([Evt.mk 1 ref 6] ++ [Evt.mk 6 ((getA rs ref).by_) (tkN xs ((getA rs ref).by_) 10)]).length = 2 := rfl
  refine On 15 [0, 1, 13, 14] <| Oe <| V_region <| On 3 [0, 1, 13, 14, 53] <| Ts1 ({ (endY s (getA rs ref) ref 6 now) with put := false } : Rfm) 37 (.bool false) hat36 hR1j (by kernel_rfl) ?_
  intro w76 hat80 hk78 hz79 hlhx81 hx81
  have hsz82 := Keep.size hk78
  replace hz25 := hz25.k1 hk78
  replace hA25 := hA25.keep hk78 (fun q hq hs => by have hs : q = b36 := hs; have g0 := own40 q hq; have g1 := ltA25 q hq; omega)
  replace hA70 := hA70.keep hk78 (fun q hq hs => by have hs : q = b36 := hs; have g0 := own70 q hq; have g1 := lt70 q hq; omega)
  replace hK0 := Keep.fresh hK0 hk78 (by intro i hi hs; have hs2 : i = b36 := hs; replace hs : F9 i := (hs2 ▸ (hdz25.zb b36 ⟨_, rfl, rfl⟩).1); rcases rel18 i hs with h | h; exact .inl h; (exfalso; omega))
  replace ho13 := DVt.keep ho13 hk78 (fun q hq hs => by have hs : q = b36 := hs; have g0 := own46 q hq; have g1 := lt20 q hq; omega)
  skip
  replace ho57 := DLd.keep ho57 hk78 (fun q hq hs => by have hs : q = b36 := hs; have g0 := own62 q hq; have g1 := lt61 q hq; omega)
  refine Oe <| V_seq <| Vr <| On 3 [0, 1, 13, 14, 56] <| Lc (o36 + jr * 45 + 38) (nt ((getA rs ref).backer)) hat80.blk (At.cell hat80 (es_at hx81) rfl) <| Oen [0, 1, 13, 14, 58] <| Vi ((getA rs ref).backer ≥ 0) (fun hc83 => ?_) (fun hc83 => ?_)
  ·
   refine V_seq ?_
   have h10 : 0 < ts.length := by omega
   obtain ⟨b84, o84, L84, T84, rfl, hat84⟩ := SlT.opn hA25
   have hb84lt := hat84.blk.lt
   have hob85 := own40 b84 ⟨_, rfl, rfl⟩
   have hob86 := ltA25 b84 ⟨_, rfl, rfl⟩
   have hne87 : ∀ q, inA A70 q → q ≠ b84 := fun q hq hs => dis75 q hq ⟨_, rfl, hs⟩
   have own88 := fun q hq => And.intro (own70 q hq) (hne87 q hq)
   have hne89 : ∀ q, F12 q → q ≠ b84 := fun q hq hs => (fun q h1 h2 => hdis15 q (hdz25.za q h2).1 h1) q hq ⟨_, rfl, hs⟩
   have own90 := fun q hq => And.intro (own46 q hq) (hne89 q hq)
   have hne91 : ∀ q, F56 q → q ≠ b84 := fun q hq hs => dis64 q hq ⟨_, rfl, hs⟩
   have own92 := fun q hq => And.intro (own62 q hq) (hne91 q hq)
   refine V_draws (acts [21, 23, 24, 25]) F56 [[0, 5, 6, 7, 8, 9, 10, 11, 12, 13, 14, 15, 16, 17, 18, 19, 20, 21, 1, 2, 3, 4, 22, 23, 24, 25]] (by kernel_rfl) (by repeat first | exact (by first | exact sure_body (by rintro _ _ ⟨_, _, h, _⟩; exact ⟨_, h⟩) | exact sure_body (by rintro _ _ ⟨_, _, h, _⟩; exact ⟨_, h⟩) | exact sure_body (by rintro _ _ ⟨h, _⟩; exact ⟨_, h⟩)) | refine sure_then ?_ | refine sure_block ?_ | refine sure_join ?_) (by kernel_rfl) ?_
   intro w94 hk93 he95 L hL96
   have hsz97 := Keep.size hk93
   replace hz25 := hz25.k0 hk93
   replace hat80 := hat80.keep hk93 id
   replace hat84 := hat84.keep hk93 id
   replace hA70 := hA70.keep0 hk93
   replace hK0 := hK0.tn hk93
   replace ho13 := DVt.keep ho13 hk93 nk
   skip
   replace ho57 := DLd.keep ho57 hk93 nk
   have qhz25 := hz25
   have qhat80 := hat80
   have qhat84 := hat84
   have K98 : Keep F56 w94 w94 := Keep.refl _ _
   obtain rfl := List.mem_singleton.1 hL96
   refine Gn [9, 10, 11, 12, 13, 14, 15, 16, 17, 18, 19, 20, 21, 1, 2, 3, 4, 22, 23, 24, 25] [0, 14, 59, 64, 67] <| Mc (o36 + jr * 45 + 38) (nt ((getA rs ref).backer)) qhat80.blk (fun hs => by have h1 := own92 _ hs; omega) (At.cell qhat80 (es_at hx81) rfl) <| Gn [13, 14, 15, 16, 17, 18, 19, 20, 21, 1, 2, 3, 4, 22, 23, 24, 25] [14, 59, 64, 68, 71] <| Mc 0 (sl_ b84 o84 ts.length cap25) qhz25 (fun hs => by have h1 := own92 _ hs; omega) rfl <| Gn [17, 18, 19, 20, 21, 1, 2, 3, 4, 22, 23, 24, 25] [14, 59, 64, 68, 72, 75] <| Gc 3 (.tmp 75) (o36 + jr * 45 + 1) (nt ((getA rs ref).track)) (some 76) qhat80.blk (fun hs => by have h1 := own92 _ hs; omega) (At.cell qhat80 (es_at hx81) rfl) <| Gp_ [(14, .pointer (some ⟨b36, o36 + jr * 45, none⟩)),(59, .slice A70 (([Evt.mk 1 ref 6] ++ [Evt.mk 6 ((getA rs ref).by_) (tkN xs ((getA rs ref).by_) 10)]).length) cap70),(64, pt x),(68, nt ((getA rs ref).backer)),(72, sl_ b84 o84 ts.length cap25),(76, nt ((getA rs ref).track))] <| Gq_ (u := nt ((getA rs ref).track)) (v := nt (jt : Int)) 76 (by rw [hjt]) <| Gi (b := b84) (o := o84) (len := ts.length) (cap := cap25) (j := jt) 80 18 144 .i64 <| Gn [20, 21, 1, 2, 3, 4, 22, 23, 24, 25] [14, 59, 64, 68, 78] <| Mc (o84 + jt * 18 + 1) (nt ((trkA ts (getA rs ref).track).deposit)) qhat84.blk (fun hs => by have h1 := own92 _ hs; omega) (At.cell qhat84 (es_at htk) rfl) <| Hg (slash6_spec F56 x (slX xs ((getA rs ref).by_) 10) cs ((getA rs ref).backer) ((trkA ts (getA rs ref).track).deposit) _ ho57) ?_
   rintro _ w99 ⟨rfl, ⟨F101, ho102, hfr103⟩, hk100⟩
   have K104 := Keep.fresh K98 hk100 (by intro i hi hs; first | exact hs | (exfalso; have h1 := own92 i hs; have h2 := lt61 i hs; omega) | (have h1 := own92 i hs; have h2 := lt61 i hs; show _ ∨ _; omega))
   refine ⟨_, rfl, K104, ?_⟩
   have hzK104 := Keep.size K104
   have hsz105 := Keep.size hk100
   replace hz25 := hz25.keep hk100 (fun hs => by have h1 := own92 _ hs; have h2 := lt61 _ hs; omega)
   replace hat80 := hat80.keep hk100 (fun hs => by have h1 := own92 _ hs; have h2 := lt61 _ hs; omega)
   replace hat84 := hat84.keep hk100 (fun hs => by have h1 := own92 _ hs; have h2 := lt61 _ hs; omega)
   replace hA70 := hA70.keep hk100 (fun q hq hs => dis74 q hq hs)
   replace hK0 := Keep.fresh hK0 hk100 (fun i hi hs => by rcases rel63 i hs with h | h; exact .inr <| .inr <| h; (exfalso; omega))
   replace ho13 := DVt.keep ho13 hk100 (fun q hq hs => dis66 q hs hq)
   skip
   have own107 : ∀ q, F101 q → 0 ≤ q ∧ q ≠ b36 ∧ q ≠ b84 ∧ q ≠ z := fun q hq => by rcases hfr103 q hq with h | h; (have h1 := own92 q h; have h2 := lt61 q h; omega); omega
   have lt106 := DLd.lt ho102
   have rel108 : ∀ q, F101 q → G q ∨ w.heap.size ≤ q := fun q hq => by rcases hfr103 q hq with h | h; exact rel63 q h; exact .inr (by omega)
   have dis109 : ∀ q, F101 q → ¬ inA A70 q := fun q h1 h2 => by rcases hfr103 q h1 with h | h; exact dis74 q h2 h; (have h4 := lt70 q h2; omega)
   have dis110 : ∀ q, F101 q → ¬ F12 q := fun q h1 h2 => by rcases hfr103 q h1 with h | h; exact dis66 q h h2; (have h4 := lt20 q h2; omega)
   have dis111 : ∀ q, F101 q → ¬ F9 q := fun q h1 h2 => by rcases hfr103 q h1 with h | h; exact dis67 q h h2; (have h4 := lt17 q h2; omega)
   refine Gn [4, 22, 23, 24, 25] [14, 59, 62, 80] <| Mc (o36 + jr * 45 + 38) (nt ((getA rs ref).backer)) qhat80.blk (fun hs => by have h1 := own92 _ hs; omega) (At.cell qhat80 (es_at hx81) rfl) <| Gn [23, 24, 25] [14, 59, 81] <| GI_final 23 (by kernel_rfl) (by kernel_rfl) <| OI_slit (E := 52) (zv := .agg #[nt 0, nt 0, nt 0]) (sz := 3) (by_ := 24) 27 1 #[(0, (Operand.tmp 81))] [.agg #[nt 6, nt ((getA rs ref).backer), nt (tkN (slX xs ((getA rs ref).by_) 10) ((getA rs ref).backer) ((trkA ts (getA rs ref).track).deposit))]] [nt 6, nt ((getA rs ref).backer), nt (tkN (slX xs ((getA rs ref).by_) 10) ((getA rs ref).backer) ((trkA ts (getA rs ref).track).deposit))] (some 82) (by kernel_rfl) (by kernel_rfl) (by kernel_rfl) (by omega) rfl (by omega) (by intro v hv; simp only [List.mem_cons, List.not_mem_nil, or_false] at hv; rcases hv with rfl <;> rfl) (by kernel_rfl) rfl ?_
   intro b112 w112 e112 hb112 k112 z112
   have hsz113 := Keep.size k112
   replace hz25 := hz25.k0 k112
   replace hat80 := hat80.keep k112 id
   replace hat84 := hat84.keep k112 id
   replace hA70 := hA70.keep0 k112
   replace hK0 := hK0.tn k112
   replace ho13 := DVt.keep ho13 k112 nk
   skip
   replace ho102 := DLd.keep ho102 k112 nk
   have hb112lt := hb112.lt
   refine OI_append (t := 27) (at2 := 27) (E := 52) (E2 := 52) (sz := 3) (by_ := 24) (zv := .agg #[nt 0, nt 0, nt 0]) (m := ([Evt.mk 1 ref 6] ++ [Evt.mk 6 ((getA rs ref).by_) (tkN xs ((getA rs ref).by_) 10)]).length) (k := 1) (.tmp 59) (.tmp 82) (.slice A70 (([Evt.mk 1 ref 6] ++ [Evt.mk 6 ((getA rs ref).by_) (tkN xs ((getA rs ref).by_) 10)]).length) cap70) (sl_ b112 0 1 1) (some 83) (by kernel_rfl) (by kernel_rfl) (by kernel_rfl) (by kernel_rfl) (by kernel_rfl) (by kernel_rfl) (by kernel_rfl) (SlT.slr hA70) (slr_one hb112 (Evt.len (Evt.mk 6 ((getA rs ref).backer) (tkN (slX xs ((getA rs ref).by_) 10) ((getA rs ref).backer) ((trkA ts (getA rs ref).track).deposit))))) (Evt.one (Evt.mk 6 ((getA rs ref).backer) (tkN (slX xs ((getA rs ref).by_) 10) ((getA rs ref).backer) ((trkA ts (getA rs ref).track).deposit)))) (by first | omega | (simp only [List.length_nil]; omega)) (by omega) (by first | omega | (simp only [List.length_nil]; omega)) (by omega) ?_
   intro vv9 w114 hap
   obtain ⟨A114, cap114, rfl, hA114, hk114, own114x⟩ := app_one (f := Evt.cells) (xs := ([Evt.mk 1 ref 6] ++ [Evt.mk 6 ((getA rs ref).by_) (tkN xs ((getA rs ref).by_) 10)])) (x := (Evt.mk 6 ((getA rs ref).backer) (tkN (slX xs ((getA rs ref).by_) 10) ((getA rs ref).backer) ((trkA ts (getA rs ref).track).deposit)))) (A := A70) (cap := cap70) hap (fun x _ => Evt.len x) (Evt.len _)
   have own114 : ∀ q, inA A114 q → ((w.heap.size ≤ q ∧ q ≠ z) ∧ q ≠ b36) ∧ q ≠ b84 := fun q hq => by rcases own114x q hq with h | h; exact own88 q h; (show ((w.heap.size ≤ q ∧ q ≠ z) ∧ q ≠ b36) ∧ q ≠ b84; omega)
   have hsz115 := Keep.size hk114
   replace hz25 := hz25.keep hk114 (fun hs => by have h1 := own88 _ hs; have h2 := lt70 _ hs; omega)
   replace hat80 := hat80.keep hk114 (fun hs => by have h1 := own88 _ hs; have h2 := lt70 _ hs; omega)
   replace hat84 := hat84.keep hk114 (fun hs => by have h1 := own88 _ hs; have h2 := lt70 _ hs; omega)
   replace hK0 := Keep.fresh hK0 hk114 (by intro i hi hs; first | exact hs | (exfalso; have h1 := own88 i hs; have h2 := lt70 i hs; omega) | (have h1 := own88 i hs; have h2 := lt70 i hs; show _ ∨ _; omega))
   replace ho13 := DVt.keep ho13 hk114 (fun q hq hs => dis72 q hs hq)
   skip
   replace ho102 := DLd.keep ho102 hk114 (fun q hq hs => dis109 q hq hs)
   have lt114 := SlT.lt hA114
   have dis116 : ∀ q, inA A114 q → ¬ F12 q := fun q h1 h2 => by rcases own114x q h1 with h | h; exact dis72 q h h2; (have h4 := lt20 q h2; omega)
   have dis117 : ∀ q, inA A114 q → ¬ F9 q := fun q h1 h2 => by rcases own114x q h1 with h | h; exact dis73 q h h2; (have h4 := lt17 q h2; omega)
   have dis118 : ∀ q, inA A114 q → ¬ F101 q := fun q h1 h2 => by rcases own114x q h1 with h | h; exact dis109 q h2 h; (have h4 := lt106 q h2; omega)
   have hlA114 : ([Evt.mk 1 ref 6] ++ [Evt.mk 6 ((getA rs ref).by_) (tkN xs ((getA rs ref).by_) 10)] ++ [Evt.mk 6 ((getA rs ref).backer) (tkN (slX xs ((getA rs ref).by_) 10) ((getA rs ref).backer) ((trkA ts (getA rs ref).track).deposit))]).length = 3 := rfl
   refine On 26 [13, 14] <| Oe <| V_region <| On 3 [13, 86] <| Tss1 ({ ({ (endY s (getA rs ref) ref 6 now) with put := false }) with backer := (-1) } : Rfm) 38 (nt (-1)) hat80 hx81 (by kernel_rfl) ?_
   intro w119 hat123 hk121 hz122 hlhx124 hx124
   have hsz125 := Keep.size hk121
   replace hz25 := hz25.k1 hk121
   replace hat84 := hat84.keep hk121 (by show ¬ (_ = _); omega)
   replace hA114 := hA114.keep hk121 (fun q hq hs => by have hs : q = b36 := hs; have g0 := own114 q hq; have g1 := lt114 q hq; omega)
   replace hK0 := Keep.fresh hK0 hk121 (by intro i hi hs; have hs2 : i = b36 := hs; replace hs : F9 i := (hs2 ▸ (hdz25.zb b36 ⟨_, rfl, rfl⟩).1); rcases rel18 i hs with h | h; exact .inl h; (exfalso; omega))
   replace ho13 := DVt.keep ho13 hk121 (fun q hq hs => by have hs : q = b36 := hs; have g0 := own90 q hq; have g1 := lt20 q hq; omega)
   skip
   replace ho102 := DLd.keep ho102 hk121 (fun q hq hs => by have hs : q = b36 := hs; have g0 := own107 q hq; have g1 := lt106 q hq; omega)
   refine Oer <| Oen [10, 11] <| V_ret ?_
   obtain ⟨h1126, h2126, h3126, h4126⟩ := kil_go (xs := xs) (s := s) (ts := ts) (now := now) hong
   have hp126 : (getA rs ref).put = true := hc47
   have hb126 : (getA rs ref).backer ≠ -1 := by omega
   have h5126 : kilX xs ts rs ref = (slX (slX xs ((getA rs ref).by_) 10) ((getA rs ref).backer) ((trkA ts (getA rs ref).track).deposit)) := by rw [h1126]; unfold kilX2 kilX1; rw [hp126, if_pos hb126]; rfl
   have h7126 : kilL xs ts rs ref = [Evt.mk 1 ref 6] ++ [Evt.mk 6 ((getA rs ref).by_) (tkN xs ((getA rs ref).by_) 10)] ++ [Evt.mk 6 ((getA rs ref).backer) (tkN (slX xs ((getA rs ref).by_) 10) ((getA rs ref).backer) ((trkA ts (getA rs ref).track).deposit))] := by rw [h4126]; unfold kilL2 kilL1 kilX1; rw [hp126, if_pos hb126]; rfl
   have h6126 : kilR s rs ref now = R1.set jr ({ ({ (endY s (getA rs ref) ref 6 now) with put := false }) with backer := (-1) }) := by rw [h3126, hR1]; unfold endR; rw [show ref.toNat = jr by omega, List.set_set] <;> exact congrArg (List.set rs jr) (kil_pb).symm
   have ho127 : DRf F9 w119 z ts (R1.set jr ({ ({ (endY s (getA rs ref) ref 6 now) with put := false }) with backer := (-1) })) := ⟨(RInv.set hrv25 htr ⟨by first | exact hge.1 | exact Int.le_refl _, hge.2⟩), hHz25, (ltm hHlt25), _, _, _, _, ⟨by (try simp only [List.length_set]); exact hz25, At.slt hat84, At.slt hat123, hdz25.za, hdz25.zb, hdz25.ab⟩⟩
   exact Xr (.tuple #[.slice A114 (([Evt.mk 1 ref 6] ++ [Evt.mk 6 ((getA rs ref).by_) (tkN xs ((getA rs ref).by_) 10)] ++ [Evt.mk 6 ((getA rs ref).backer) (tkN (slX xs ((getA rs ref).by_) 10) ((getA rs ref).backer) ((trkA ts (getA rs ref).track).deposit))]).length) cap114, nt 0]) ⟨A114, cap114, by rw [h7126, hong] <;> rfl, by rw [h7126]; exact hA114, (fun q h => by have h1 := own114 q h; omega), ⟨F9, F12, F101, (by rw [h6126]; exact ho127),(by rw [h2126]; exact ho13),(by rw [h5126]; exact ho102), rel18, rel21, rel108, hdis15, (fun q h1 h2 => dis111 q h2 h1),(fun q h1 h2 => dis110 q h2 h1),(dis117),(dis116),(dis118)⟩, hK0⟩
  refine Vsk <| Vn [10, 11] <| V_ret ?_
  obtain ⟨h1128, h2128, h3128, h4128⟩ := kil_go (xs := xs) (s := s) (ts := ts) (now := now) hong
  have hp128 : (getA rs ref).put = true := hc47
  have hb128 : (getA rs ref).backer = -1 := by omega
  have hn128 : ¬ (getA rs ref).backer ≠ -1 := fun h => h hb128
  have h5128 : kilX xs ts rs ref = (slX xs ((getA rs ref).by_) 10) := by rw [h1128]; unfold kilX2 kilX1; rw [hp128, if_neg hn128]; rfl
  have h7128 : kilL xs ts rs ref = [Evt.mk 1 ref 6] ++ [Evt.mk 6 ((getA rs ref).by_) (tkN xs ((getA rs ref).by_) 10)] := by rw [h4128]; unfold kilL2 kilL1 kilX1; rw [hp128, if_neg hn128]; rfl
  have h6128 : kilR s rs ref now = R1.set jr ({ (endY s (getA rs ref) ref 6 now) with put := false }) := by rw [h3128, hR1]; unfold endR; rw [show ref.toNat = jr by omega, List.set_set] <;> exact congrArg (List.set rs jr) (kil_p (y := endY s (getA rs ref) ref 6 now) hb128).symm
  have ho129 : DRf F9 w76 z ts (R1.set jr ({ (endY s (getA rs ref) ref 6 now) with put := false })) := ⟨(RInv.set hrv25 htr ⟨by first | exact hge.1 | exact Int.le_refl _, hge.2⟩), hHz25, (ltm hHlt25), _, _, _, _, ⟨by (try simp only [List.length_set]); exact hz25, hA25, At.slt hat80, hdz25.za, hdz25.zb, hdz25.ab⟩⟩
  exact Xr (.tuple #[.slice A70 (([Evt.mk 1 ref 6] ++ [Evt.mk 6 ((getA rs ref).by_) (tkN xs ((getA rs ref).by_) 10)]).length) cap70, nt 0]) ⟨A70, cap70, by rw [h7128, hong] <;> rfl, by rw [h7128]; exact hA70, (fun q h => by have h1 := own70 q h; omega), ⟨F9, F12, F56, (by rw [h6128]; exact ho129),(by rw [h2128]; exact ho13),(by rw [h5128]; exact ho57), rel18, rel21, rel63, hdis15, (fun q h1 h2 => dis67 q h2 h1),(fun q h1 h2 => dis66 q h2 h1),(dis73),(dis72),(dis74)⟩, hK0⟩
 refine Vsk <| V_seq <| Vr <| On 3 [0, 1, 13, 14, 56] <| Lc (o36 + jr * 45 + 38) (nt ((getA rs ref).backer)) hat36.blk (At.cell hat36 (es_at hR1j) rfl) <| Oen [0, 1, 13, 14, 58] <| Vi ((getA rs ref).backer ≥ 0) (fun hc130 => ?_) (fun hc130 => ?_)
 ·
  refine V_seq ?_
  have h10 : 0 < ts.length := by omega
  obtain ⟨b131, o131, L131, T131, rfl, hat131⟩ := SlT.opn hA25
  have hb131lt := hat131.blk.lt
  have hob132 := own40 b131 ⟨_, rfl, rfl⟩
  have hob133 := ltA25 b131 ⟨_, rfl, rfl⟩
  have hne134 : ∀ q, inA (some ⟨b23, 0, none⟩) q → q ≠ b131 := fun q hq hs => dis31 q hq ⟨_, rfl, hs⟩
  have own135 := fun q hq => And.intro (own42 q hq) (hne134 q hq)
  have hne136 : ∀ q, G q → q ≠ b131 := fun q hq hs => (fun q h1 h2 => dis19 q (hdz25.za q h2).1 h1) q hq ⟨_, rfl, hs⟩
  have own137 := fun q hq => And.intro (own44 q hq) (hne136 q hq)
  have hne138 : ∀ q, F12 q → q ≠ b131 := fun q hq hs => (fun q h1 h2 => hdis15 q (hdz25.za q h2).1 h1) q hq ⟨_, rfl, hs⟩
  have own139 := fun q hq => And.intro (own46 q hq) (hne138 q hq)
  refine V_draws (acts [21, 23, 24, 25]) G [[0, 5, 6, 7, 8, 9, 10, 11, 12, 13, 14, 15, 16, 17, 18, 19, 20, 21, 1, 2, 3, 4, 22, 23, 24, 25]] (by kernel_rfl) (by repeat first | exact (by first | exact sure_body (by rintro _ _ ⟨_, _, h, _⟩; exact ⟨_, h⟩) | exact sure_body (by rintro _ _ ⟨_, _, h, _⟩; exact ⟨_, h⟩) | exact sure_body (by rintro _ _ ⟨h, _⟩; exact ⟨_, h⟩)) | refine sure_then ?_ | refine sure_block ?_ | refine sure_join ?_) (by kernel_rfl) ?_
  intro w141 hk140 he142 L hL143
  have hsz144 := Keep.size hk140
  replace hz25 := hz25.k0 hk140
  replace hat36 := hat36.keep hk140 id
  replace hat131 := hat131.keep hk140 id
  replace hsl28 := hsl28.keep0 hk140
  replace hl := DLd.keep hl hk140 nk
  replace hK0 := hK0.tn hk140
  replace ho13 := DVt.keep ho13 hk140 nk
  skip
  have qhz25 := hz25
  have qhat36 := hat36
  have qhat131 := hat131
  have K145 : Keep G w141 w141 := Keep.refl _ _
  obtain rfl := List.mem_singleton.1 hL143
  refine Gn [9, 10, 11, 12, 13, 14, 15, 16, 17, 18, 19, 20, 21, 1, 2, 3, 4, 22, 23, 24, 25] [0, 14, 59, 64, 67] <| Mc (o36 + jr * 45 + 38) (nt ((getA rs ref).backer)) qhat36.blk (fun hs => by have h1 := own137 _ hs; omega) (At.cell qhat36 (es_at hR1j) rfl) <| Gn [13, 14, 15, 16, 17, 18, 19, 20, 21, 1, 2, 3, 4, 22, 23, 24, 25] [14, 59, 64, 68, 71] <| Mc 0 (sl_ b131 o131 ts.length cap25) qhz25 (fun hs => by have h1 := own137 _ hs; omega) rfl <| Gn [17, 18, 19, 20, 21, 1, 2, 3, 4, 22, 23, 24, 25] [14, 59, 64, 68, 72, 75] <| Gc 3 (.tmp 75) (o36 + jr * 45 + 1) (nt ((getA rs ref).track)) (some 76) qhat36.blk (fun hs => by have h1 := own137 _ hs; omega) (At.cell qhat36 (es_at hR1j) rfl) <| Gp_ [(14, .pointer (some ⟨b36, o36 + jr * 45, none⟩)),(59, sl_ b23 0 1 1),(64, pt x),(68, nt ((getA rs ref).backer)),(72, sl_ b131 o131 ts.length cap25),(76, nt ((getA rs ref).track))] <| Gq_ (u := nt ((getA rs ref).track)) (v := nt (jt : Int)) 76 (by rw [hjt]) <| Gi (b := b131) (o := o131) (len := ts.length) (cap := cap25) (j := jt) 80 18 144 .i64 <| Gn [20, 21, 1, 2, 3, 4, 22, 23, 24, 25] [14, 59, 64, 68, 78] <| Mc (o131 + jt * 18 + 1) (nt ((trkA ts (getA rs ref).track).deposit)) qhat131.blk (fun hs => by have h1 := own137 _ hs; omega) (At.cell qhat131 (es_at htk) rfl) <| Hg (slash6_spec G x xs cs ((getA rs ref).backer) ((trkA ts (getA rs ref).track).deposit) _ hl) ?_
  rintro _ w146 ⟨rfl, ⟨F148, ho149, hfr150⟩, hk147⟩
  have K151 := Keep.fresh K145 hk147 (by intro i hi hs; first | exact hs | (exfalso; have h1 := own137 i hs; have h2 := hGlt i hs; omega) | (have h1 := own137 i hs; have h2 := hGlt i hs; show _ ∨ _; omega))
  refine ⟨_, rfl, K151, ?_⟩
  have hzK151 := Keep.size K151
  have hsz152 := Keep.size hk147
  replace hz25 := hz25.keep hk147 (fun hs => by have h1 := own137 _ hs; have h2 := hGlt _ hs; omega)
  replace hat36 := hat36.keep hk147 (fun hs => by have h1 := own137 _ hs; have h2 := hGlt _ hs; omega)
  replace hat131 := hat131.keep hk147 (fun hs => by have h1 := own137 _ hs; have h2 := hGlt _ hs; omega)
  replace hsl28 := hsl28.keep hk147 (fun q hq hs => dis33 q hq hs)
  replace hK0 := Keep.fresh hK0 hk147 (fun i hi hs => by rcases hGr i hs with h | h; exact .inr <| .inr <| h; (exfalso; omega))
  replace ho13 := DVt.keep ho13 hk147 (fun q hq hs => dis22 q hq hs)
  skip
  have own154 : ∀ q, F148 q → 0 ≤ q ∧ q ≠ b36 ∧ q ≠ b131 ∧ q ≠ z := fun q hq => by rcases hfr150 q hq with h | h; (have h1 := own137 q h; have h2 := hGlt q h; omega); omega
  have lt153 := DLd.lt ho149
  have rel155 : ∀ q, F148 q → G q ∨ w.heap.size ≤ q := fun q hq => by rcases hfr150 q hq with h | h; exact hGr q h; exact .inr (by omega)
  have dis156 : ∀ q, F148 q → ¬ inA (some ⟨b23, 0, none⟩) q := fun q h1 h2 => by rcases hfr150 q h1 with h | h; exact dis33 q h2 h; (have h4 := lt30 q h2; omega)
  have dis157 : ∀ q, F148 q → ¬ F12 q := fun q h1 h2 => by rcases hfr150 q h1 with h | h; exact dis22 q h2 h; (have h4 := lt20 q h2; omega)
  have dis158 : ∀ q, F148 q → ¬ F9 q := fun q h1 h2 => by rcases hfr150 q h1 with h | h; exact dis19 q h2 h; (have h4 := lt17 q h2; omega)
  refine Gn [4, 22, 23, 24, 25] [14, 59, 62, 80] <| Mc (o36 + jr * 45 + 38) (nt ((getA rs ref).backer)) qhat36.blk (fun hs => by have h1 := own137 _ hs; omega) (At.cell qhat36 (es_at hR1j) rfl) <| Gn [23, 24, 25] [14, 59, 81] <| GI_final 23 (by kernel_rfl) (by kernel_rfl) <| OI_slit (E := 52) (zv := .agg #[nt 0, nt 0, nt 0]) (sz := 3) (by_ := 24) 27 1 #[(0, (Operand.tmp 81))] [.agg #[nt 6, nt ((getA rs ref).backer), nt (tkN xs ((getA rs ref).backer) ((trkA ts (getA rs ref).track).deposit))]] [nt 6, nt ((getA rs ref).backer), nt (tkN xs ((getA rs ref).backer) ((trkA ts (getA rs ref).track).deposit))] (some 82) (by kernel_rfl) (by kernel_rfl) (by kernel_rfl) (by omega) rfl (by omega) (by intro v hv; simp only [List.mem_cons, List.not_mem_nil, or_false] at hv; rcases hv with rfl <;> rfl) (by kernel_rfl) rfl ?_
  intro b159 w159 e159 hb159 k159 z159
  have hsz160 := Keep.size k159
  replace hz25 := hz25.k0 k159
  replace hat36 := hat36.keep k159 id
  replace hat131 := hat131.keep k159 id
  replace hsl28 := hsl28.keep0 k159
  replace hK0 := hK0.tn k159
  replace ho13 := DVt.keep ho13 k159 nk
  skip
  replace ho149 := DLd.keep ho149 k159 nk
  have hb159lt := hb159.lt
  refine OI_append (t := 27) (at2 := 27) (E := 52) (E2 := 52) (sz := 3) (by_ := 24) (zv := .agg #[nt 0, nt 0, nt 0]) (m := [Evt.mk 1 ref 6].length) (k := 1) (.tmp 59) (.tmp 82) (sl_ b23 0 1 1) (sl_ b159 0 1 1) (some 83) (by kernel_rfl) (by kernel_rfl) (by kernel_rfl) (by kernel_rfl) (by kernel_rfl) (by kernel_rfl) (by kernel_rfl) (SlT.slr hsl28) (slr_one hb159 (Evt.len (Evt.mk 6 ((getA rs ref).backer) (tkN xs ((getA rs ref).backer) ((trkA ts (getA rs ref).track).deposit))))) (Evt.one (Evt.mk 6 ((getA rs ref).backer) (tkN xs ((getA rs ref).backer) ((trkA ts (getA rs ref).track).deposit)))) (by first | omega | (simp only [List.length_nil]; omega)) (by omega) (by first | omega | (simp only [List.length_nil]; omega)) (by omega) ?_
  intro vv9 w161 hap
  obtain ⟨A161, cap161, rfl, hA161, hk161, own161x⟩ := app_one (f := Evt.cells) (xs := [Evt.mk 1 ref 6]) (x := (Evt.mk 6 ((getA rs ref).backer) (tkN xs ((getA rs ref).backer) ((trkA ts (getA rs ref).track).deposit)))) (A := (some ⟨b23, 0, none⟩)) (cap := 1) hap (fun x _ => Evt.len x) (Evt.len _)
  have own161 : ∀ q, inA A161 q → ((w.heap.size ≤ q ∧ q ≠ z) ∧ q ≠ b36) ∧ q ≠ b131 := fun q hq => by rcases own161x q hq with h | h; exact own135 q h; (show ((w.heap.size ≤ q ∧ q ≠ z) ∧ q ≠ b36) ∧ q ≠ b131; omega)
  have hsz162 := Keep.size hk161
  replace hz25 := hz25.keep hk161 (fun hs => by have h1 := own135 _ hs; have h2 := lt30 _ hs; omega)
  replace hat36 := hat36.keep hk161 (fun hs => by have h1 := own135 _ hs; have h2 := lt30 _ hs; omega)
  replace hat131 := hat131.keep hk161 (fun hs => by have h1 := own135 _ hs; have h2 := lt30 _ hs; omega)
  replace hK0 := Keep.fresh hK0 hk161 (by intro i hi hs; first | exact hs | (exfalso; have h1 := own135 i hs; have h2 := lt30 i hs; omega) | (have h1 := own135 i hs; have h2 := lt30 i hs; show _ ∨ _; omega))
  replace ho13 := DVt.keep ho13 hk161 (fun q hq hs => dis34 q hs hq)
  skip
  replace ho149 := DLd.keep ho149 hk161 (fun q hq hs => dis156 q hq hs)
  have lt161 := SlT.lt hA161
  have dis163 : ∀ q, inA A161 q → ¬ F12 q := fun q h1 h2 => by rcases own161x q h1 with h | h; exact dis34 q h h2; (have h4 := lt20 q h2; omega)
  have dis164 : ∀ q, inA A161 q → ¬ F9 q := fun q h1 h2 => by rcases own161x q h1 with h | h; exact dis35 q h h2; (have h4 := lt17 q h2; omega)
  have dis165 : ∀ q, inA A161 q → ¬ F148 q := fun q h1 h2 => by rcases own161x q h1 with h | h; exact dis156 q h2 h; (have h4 := lt153 q h2; omega)
  have hlA161 : ([Evt.mk 1 ref 6] ++ [Evt.mk 6 ((getA rs ref).backer) (tkN xs ((getA rs ref).backer) ((trkA ts (getA rs ref).track).deposit))]).length = 2 := rfl
  refine On 26 [13, 14] <| Oe <| V_region <| On 3 [13, 86] <| Ts1 ({ (endY s (getA rs ref) ref 6 now) with backer := (-1) } : Rfm) 38 (nt (-1)) hat36 hR1j (by kernel_rfl) ?_
  intro w166 hat170 hk168 hz169 hlhx171 hx171
  have hsz172 := Keep.size hk168
  replace hz25 := hz25.k1 hk168
  replace hat131 := hat131.keep hk168 (by show ¬ (_ = _); omega)
  replace hA161 := hA161.keep hk168 (fun q hq hs => by have hs : q = b36 := hs; have g0 := own161 q hq; have g1 := lt161 q hq; omega)
  replace hK0 := Keep.fresh hK0 hk168 (by intro i hi hs; have hs2 : i = b36 := hs; replace hs : F9 i := (hs2 ▸ (hdz25.zb b36 ⟨_, rfl, rfl⟩).1); rcases rel18 i hs with h | h; exact .inl h; (exfalso; omega))
  replace ho13 := DVt.keep ho13 hk168 (fun q hq hs => by have hs : q = b36 := hs; have g0 := own139 q hq; have g1 := lt20 q hq; omega)
  skip
  replace ho149 := DLd.keep ho149 hk168 (fun q hq hs => by have hs : q = b36 := hs; have g0 := own154 q hq; have g1 := lt153 q hq; omega)
  refine Oer <| Oen [10, 11] <| V_ret ?_
  obtain ⟨h1173, h2173, h3173, h4173⟩ := kil_go (xs := xs) (s := s) (ts := ts) (now := now) hong
  have hp173 : (getA rs ref).put = false := hc47
  have hb173 : (getA rs ref).backer ≠ -1 := by omega
  have h5173 : kilX xs ts rs ref = (slX xs ((getA rs ref).backer) ((trkA ts (getA rs ref).track).deposit)) := by rw [h1173]; unfold kilX2 kilX1; rw [hp173, if_pos hb173]; rfl
  have h7173 : kilL xs ts rs ref = [Evt.mk 1 ref 6] ++ [Evt.mk 6 ((getA rs ref).backer) (tkN xs ((getA rs ref).backer) ((trkA ts (getA rs ref).track).deposit))] := by rw [h4173]; unfold kilL2 kilL1 kilX1; rw [hp173, if_pos hb173]; rfl
  have h6173 : kilR s rs ref now = R1.set jr ({ (endY s (getA rs ref) ref 6 now) with backer := (-1) }) := by rw [h3173, hR1]; unfold endR; rw [show ref.toNat = jr by omega, List.set_set] <;> exact congrArg (List.set rs jr) (kil_b (y := endY s (getA rs ref) ref 6 now) hp173).symm
  have ho174 : DRf F9 w166 z ts (R1.set jr ({ (endY s (getA rs ref) ref 6 now) with backer := (-1) })) := ⟨(RInv.set hrv25 htr ⟨by first | exact hge.1 | exact Int.le_refl _, hge.2⟩), hHz25, (ltm hHlt25), _, _, _, _, ⟨by (try simp only [List.length_set]); exact hz25, At.slt hat131, At.slt hat170, hdz25.za, hdz25.zb, hdz25.ab⟩⟩
  exact Xr (.tuple #[.slice A161 (([Evt.mk 1 ref 6] ++ [Evt.mk 6 ((getA rs ref).backer) (tkN xs ((getA rs ref).backer) ((trkA ts (getA rs ref).track).deposit))]).length) cap161, nt 0]) ⟨A161, cap161, by rw [h7173, hong] <;> rfl, by rw [h7173]; exact hA161, (fun q h => by have h1 := own161 q h; omega), ⟨F9, F12, F148, (by rw [h6173]; exact ho174),(by rw [h2173]; exact ho13),(by rw [h5173]; exact ho149), rel18, rel21, rel155, hdis15, (fun q h1 h2 => dis158 q h2 h1),(fun q h1 h2 => dis157 q h2 h1),(dis164),(dis163),(dis165)⟩, hK0⟩
 refine Vsk <| Vn [10, 11] <| V_ret ?_
 obtain ⟨h1175, h2175, h3175, h4175⟩ := kil_go (xs := xs) (s := s) (ts := ts) (now := now) hong
 have hp175 : (getA rs ref).put = false := hc47
 have hb175 : (getA rs ref).backer = -1 := by omega
 have hn175 : ¬ (getA rs ref).backer ≠ -1 := fun h => h hb175
 have h5175 : kilX xs ts rs ref = xs := by rw [h1175]; unfold kilX2 kilX1; rw [hp175, if_neg hn175]; rfl
 have h7175 : kilL xs ts rs ref = [Evt.mk 1 ref 6] := by rw [h4175]; unfold kilL2 kilL1 kilX1; rw [hp175, if_neg hn175]; rfl
 have h6175 : kilR s rs ref now = R1 := by rw [h3175, hR1]; unfold endR; rw [show ref.toNat = jr by omega] <;> exact congrArg (List.set rs jr) (kil_0 (y := endY s (getA rs ref) ref 6 now) hp175 hb175).symm
 have ho176 : DRf F9 w23 z ts R1 := ⟨hrv25, hHz25, (ltm hHlt25), _, _, _, _, ⟨by (try simp only [List.length_set]); exact hz25, hA25, At.slt hat36, hdz25.za, hdz25.zb, hdz25.ab⟩⟩
 exact Xr (.tuple #[sl_ b23 0 1 1, nt 0]) ⟨(some ⟨b23, 0, none⟩), 1, by rw [h7175, hong] <;> rfl, by rw [h7175]; exact hsl28, (fun q h => by have h1 := own29 q h; omega), ⟨F9, F12, G, (by rw [h6175]; exact ho176),(by rw [h2175]; exact ho13),(by rw [h5175]; exact hl), rel18, rel21, hGr, hdis15, dis19, dis22, (dis35),(dis34),(dis33)⟩, hK0⟩
set_option maxHeartbeats 2000000 in
theorem rkil12_no (H : Nat → Prop) (z : Nat) (ts : List Trk) (rs : List Rfm) (F : Nat → Prop) (y : Nat) (s : VS) (G : Nat → Prop) (x : Nat) (xs : List Acc) (cs : List Ci) (ref now : Int) (w : World) (h : DRf H w z ts rs) (hV : DVt F w y s) (hl : DLd G w x xs cs) (hHF : ∀ q, H q → ¬ F q) (hHG : ∀ q, H q → ¬ G q) (hFG : ∀ q, F q → ¬ G q) (hong : ¬ ongE rs ref = 0) : Calls Tryz.prog 34 #[pt z, pt x, pt y, nt ref, nt now] w fun e w' => ∃ A' cap', e = .returned (.tuple #[.slice A' (kilL xs ts rs ref).length cap', nt (ongE rs ref)]) ∧ SlT w' 3 Evt.cells A' cap' (kilL xs ts rs ref) ∧ (∀ q, inA A' q → w.heap.size ≤ q) ∧ (∃ H' F' G', DRf H' w' z ts (kilR s rs ref now) ∧ DVt F' w' y (kilS s rs ref now) ∧ DLd G' w' x (kilX xs ts rs ref) cs ∧ (∀ q, H' q → H q ∨ w.heap.size ≤ q) ∧ (∀ q, F' q → F q ∨ w.heap.size ≤ q) ∧ (∀ q, G' q → G q ∨ w.heap.size ≤ q) ∧ (∀ q, H' q → ¬ F' q) ∧ (∀ q, H' q → ¬ G' q) ∧ (∀ q, F' q → ¬ G' q) ∧ (∀ q, inA A' q → ¬ H' q) ∧ (∀ q, inA A' q → ¬ F' q) ∧ (∀ q, inA A' q → ¬ G' q)) ∧ Keep (fun q => H q ∨ F q ∨ G q) w w' := by
 have hHlt := DRf.lt h
 have hzlt := hHlt _ (DRf.at_ h)
 have hHr : ∀ q, H q → H q ∨ w.heap.size ≤ q := fun _ h => .inl h
 have hFlt := DVt.lt hV
 have hylt := hFlt _ (DVt.at_ hV)
 have hFr : ∀ q, F q → F q ∨ w.heap.size ≤ q := fun _ h => .inl h
 have hGlt := DLd.lt hl
 have hxlt := hGlt _ (DLd.at_ hl)
 have hGr : ∀ q, G q → G q ∨ w.heap.size ≤ q := fun _ h => .inl h
 have hK0 : Keep (fun q => H q ∨ F q ∨ G q) w w := Keep.refl _ _
 refine eV ?_
 refine Vr <| On 2 [0, 1, 2, 3, 4] <| Oer <| On 2 [0, 1, 2, 3, 4, 15, 16] <| Kk (rmay_spec H z ts rs ref _ h) fun w1 hk2 _ => ?_
 replace h := DRf.keep h hk2 nk
 replace hV := DVt.keep hV hk2 nk
 replace hl := DLd.keep hl hk2 nk
 replace hK0 := hK0.tn hk2
 refine On 4 [0, 1, 2, 3, 4, 12] <| Oe <| V_seq <| Vn [0, 1, 2, 3, 4, 12, 19] <| Vq (u := .bool (!(decide (ongE rs ref = 0)))) (v := .bool true) 19 (by rw [decide_eq_false hong]; rfl) <| Vo <| Vn [10, 11] <| Rt ?_
 obtain ⟨_, _, _, h15, h25, h35, h45⟩ := can_no (s := s) (now := now) (xs := xs) (ts := ts) (rs := rs) (ref := ref) rfl hong
 exact Xr (.tuple #[.slice none 0 0, nt (ongE rs ref)]) ⟨none, 0, by rw [h45]; rfl, by rw [h45]; exact SlT.nil _ _ _, (fun q h => (inA_none h).elim), ⟨H, F, G, (by rw [h35]; exact h),(by rw [h25]; exact hV),(by rw [h15]; exact hl), hHr, hFr, hGr, hHF, hHG, hFG, fun q h => (inA_none h).elim, fun q h => (inA_none h).elim, fun q h => (inA_none h).elim⟩, hK0⟩
theorem rkil12_spec (H : Nat → Prop) (z : Nat) (ts : List Trk) (rs : List Rfm) (F : Nat → Prop) (y : Nat) (s : VS) (G : Nat → Prop) (x : Nat) (xs : List Acc) (cs : List Ci) (ref now : Int) (w : World) (h : DRf H w z ts rs) (hV : DVt F w y s) (hl : DLd G w x xs cs) (hHF : ∀ q, H q → ¬ F q) (hHG : ∀ q, H q → ¬ G q) (hFG : ∀ q, F q → ¬ G q) : Calls Tryz.prog 34 #[pt z, pt x, pt y, nt ref, nt now] w fun e w' => ∃ A' cap', e = .returned (.tuple #[.slice A' (kilL xs ts rs ref).length cap', nt (ongE rs ref)]) ∧ SlT w' 3 Evt.cells A' cap' (kilL xs ts rs ref) ∧ (∀ q, inA A' q → w.heap.size ≤ q) ∧ (∃ H' F' G', DRf H' w' z ts (kilR s rs ref now) ∧ DVt F' w' y (kilS s rs ref now) ∧ DLd G' w' x (kilX xs ts rs ref) cs ∧ (∀ q, H' q → H q ∨ w.heap.size ≤ q) ∧ (∀ q, F' q → F q ∨ w.heap.size ≤ q) ∧ (∀ q, G' q → G q ∨ w.heap.size ≤ q) ∧ (∀ q, H' q → ¬ F' q) ∧ (∀ q, H' q → ¬ G' q) ∧ (∀ q, F' q → ¬ G' q) ∧ (∀ q, inA A' q → ¬ H' q) ∧ (∀ q, inA A' q → ¬ F' q) ∧ (∀ q, inA A' q → ¬ G' q)) ∧ Keep (fun q => H q ∨ F q ∨ G q) w w' := by
  by_cases hong : ongE rs ref = 0
  · exact rkil12_go H z ts rs F y s G x xs cs ref now w h hV hl hHF hHG hFG hong
  · exact rkil12_no H z ts rs F y s G x xs cs ref now w h hV hl hHF hHG hFG hong
end Go.Al
namespace Go.Al
open Go Go.RowKit Go.Proofs
section
variable {ts : List Trk} {of now : Int} {dk : CA → RW → RsA} {c : CA} {u : RW} {to n : Int} {kl : List CA}
theorem doS_1 (h : c.k = 1) (hn : c.n = n) : doS ts of now dk c u = ([Evt.mk 5 of n], 0, u) := by subst hn; exact if_pos h
theorem doS_sp (h : c.k = 2) : doS ts of now dk c u = spS (trkA ts of) c u := by unfold doS; rw [if_neg (by omega), if_pos h]
theorem doS_2a (h : c.k = 2) (hn : c.n = n) (h1 : n > (trkA ts of).cap) : doS ts of now dk c u = ([], 10, u) := by subst hn; rw [doS_sp h]; exact if_pos h1
theorem doS_2b (h : c.k = 2) (ht : c.to = to) (hn : c.n = n) (h1 : ¬ n > (trkA ts of).cap) (h2 : ¬ transE u.xs u.cs 0 to n = 0) : doS ts of now dk c u = ([], transE u.xs u.cs 0 to n, rwTrn u 0 to n) := by subst hn ht; rw [doS_sp h]; unfold spS; rw [if_neg h1, if_pos h2]
theorem doS_2c (h : c.k = 2) (ht : c.to = to) (hn : c.n = n) (h1 : ¬ n > (trkA ts of).cap) (h2 : transE u.xs u.cs 0 to n = 0) : doS ts of now dk c u = ([Evt.mk 3 to n], 0, rwTrn u 0 to n) := by subst hn ht; rw [doS_sp h]; unfold spS; rw [if_neg h1, if_neg (fun h9 => h9 h2)]
theorem doS_5 (h : c.k = 5) (hk : c.kids = kl) : doS ts of now dk c u = batS dk kl [] u := by subst hk; unfold doS; rw [if_neg (by omega), if_neg (by omega), if_pos h]
theorem doS_3a (h : c.k = 3) (h1 : (trkA ts of).rank < 1) : doS ts of now dk c u = ([], 8, u) := by unfold doS; rw [if_neg (by omega), if_neg (by omega), if_neg (by omega), if_pos h, if_pos h1]
theorem doS_3b (h : c.k = 3) (hn : c.n = n) (h1 : ¬ (trkA ts of).rank < 1) : doS ts of now dk c u = (canL u.rs n, ongE u.rs n, rwCan u n now) := by subst hn; unfold doS; rw [if_neg (by omega), if_neg (by omega), if_neg (by omega), if_pos h, if_neg h1]
theorem doS_4a (h : c.k = 4) (h1 : (trkA ts of).rank < 2) : doS ts of now dk c u = ([], 8, u) := by unfold doS; rw [if_neg (by omega), if_neg (by omega), if_neg (by omega), if_neg (by omega), if_pos h1]
theorem doS_4b (h : c.k = 4) (hn : c.n = n) (h1 : ¬ (trkA ts of).rank < 2) : doS ts of now dk c u = (kilL u.xs ts u.rs n, ongE u.rs n, rwKil ts u n now) := by subst hn; unfold doS; rw [if_neg (by omega), if_neg (by omega), if_neg (by omega), if_neg (by omega), if_neg h1]
end
theorem isC7_yes {D : Nat → Prop} {c : CA} {k to m0 : Int} {A : Option Addr} {cap : Nat} {kl : List CA} {w : World} (hc : c = CA.mk k to m0 A cap kl) (hok : okCA 3 c = true) (hcok : CAok c) (h : RepIn D w c) : Calls Tryz.prog 31 #[.agg #[nt k, nt to, nt m0, .slice A kl.length cap]] w (rk_ w (.bool true)) := by
  subst hc
  have h9 := isC7_spec D _ w hcok h
  rw [hok] at h9
  exact h9
theorem isC7_any {D : Nat → Prop} {c : CA} {k to m0 : Int} {A : Option Addr} {cap : Nat} {kl : List CA} {w : World} (hc : c = CA.mk k to m0 A cap kl) (hcok : CAok c) (h : RepIn D w c) : Calls Tryz.prog 31 #[.agg #[nt k, nt to, nt m0, .slice A kl.length cap]] w fun e w' => e = .returned (.bool (okCA 3 c)) ∧ Keep none_ w w' := by
  subst hc
  exact isC7_spec D _ w hcok h
def DDoAt (z y x : Nat) (ts : List Trk) (of now : Int) (dk : CA → RW → RsA) (c : CA) : Prop := ∀ (D H F G : Nat → Prop) (u : RW) (w : World), RepIn D w c → DRf H w z ts u.rs → DVt F w y u.s → DLd G w x u.xs u.cs → (∀ q, H q → ¬ F q) → (∀ q, H q → ¬ G q) → (∀ q, F q → ¬ G q) → (∀ q, D q → q < w.heap.size ∧ ¬ H q ∧ ¬ F q ∧ ¬ G q) → Calls Tryz.prog 15 #[pt x, pt y, pt z, .agg c.cells.toArray, nt of, nt now] w fun e w' => ∃ A' cap', e = .returned (.tuple #[.slice A' ((dk c u).1).length cap', nt ((dk c u).2.1)]) ∧ SlT w' 3 Evt.cells A' cap' ((dk c u).1) ∧ (∀ q, inA A' q → w.heap.size ≤ q) ∧ (∃ H' F' G', DRf H' w' z ts (dk c u).2.2.rs ∧ DVt F' w' y (dk c u).2.2.s ∧ DLd G' w' x (dk c u).2.2.xs (dk c u).2.2.cs ∧ (∀ q, H' q → H q ∨ w.heap.size ≤ q) ∧ (∀ q, F' q → F q ∨ w.heap.size ≤ q) ∧ (∀ q, G' q → G q ∨ w.heap.size ≤ q) ∧ (∀ q, H' q → ¬ F' q) ∧ (∀ q, H' q → ¬ G' q) ∧ (∀ q, F' q → ¬ G' q) ∧ (∀ q, inA A' q → ¬ H' q) ∧ (∀ q, inA A' q → ¬ F' q) ∧ (∀ q, inA A' q → ¬ G' q)) ∧ Keep (fun q => H q ∨ F q ∨ G q) w w'
set_option maxHeartbeats 4000000 in
theorem ddo_step (z y x : Nat) (ts : List Trk) (of now : Int) (kk to m0 : Int) (A : Option Addr) (cap : Nat) (kl : List CA) (c : CA) (hc : c = CA.mk kk to m0 A cap kl) (hcok : CAok c) (dk : CA → RW → RsA) (hok : okCA 3 c = true) (htr : 0 ≤ of ∧ of < ts.length) (hIH : kk = 5 → ∀ x9 ∈ kl, DDoAt z y x ts of now dk x9) (hlen : kk = 5 → kl.length ≤ 4 ∧ ∀ x9 ∈ kl, ∀ u, (dk x9 u).1.length ≤ 300) (D H F G : Nat → Prop) (u : RW) (w : World) (hrep : RepIn D w c) (h : DRf H w z ts u.rs) (hV : DVt F w y u.s) (hl : DLd G w x u.xs u.cs) (hHF : ∀ q, H q → ¬ F q) (hHG : ∀ q, H q → ¬ G q) (hFG : ∀ q, F q → ¬ G q) (hDo : ∀ q, D q → q < w.heap.size ∧ ¬ H q ∧ ¬ F q ∧ ¬ G q) : Calls Tryz.prog 15 #[pt x, pt y, pt z, .agg #[nt kk, nt to, nt m0, .slice A kl.length cap], nt of, nt now] w fun e w' => ∃ A' cap', e = .returned (.tuple #[.slice A' ((doS ts of now dk c u).1).length cap', nt ((doS ts of now dk c u).2.1)]) ∧ SlT w' 3 Evt.cells A' cap' ((doS ts of now dk c u).1) ∧ (∀ q, inA A' q → w.heap.size ≤ q) ∧ (∃ H' F' G', DRf H' w' z ts (doS ts of now dk c u).2.2.rs ∧ DVt F' w' y (doS ts of now dk c u).2.2.s ∧ DLd G' w' x (doS ts of now dk c u).2.2.xs (doS ts of now dk c u).2.2.cs ∧ (∀ q, H' q → H q ∨ w.heap.size ≤ q) ∧ (∀ q, F' q → F q ∨ w.heap.size ≤ q) ∧ (∀ q, G' q → G q ∨ w.heap.size ≤ q) ∧ (∀ q, H' q → ¬ F' q) ∧ (∀ q, H' q → ¬ G' q) ∧ (∀ q, F' q → ¬ G' q) ∧ (∀ q, inA A' q → ¬ H' q) ∧ (∀ q, inA A' q → ¬ F' q) ∧ (∀ q, inA A' q → ¬ G' q)) ∧ Keep (fun q => H q ∨ F q ∨ G q) w w' := by
 have hHlt := DRf.lt h
 have hzlt := hHlt _ (DRf.at_ h)
 have hHr : ∀ q, H q → H q ∨ w.heap.size ≤ q := fun _ h => .inl h
 have hFlt := DVt.lt hV
 have hylt := hFlt _ (DVt.at_ hV)
 have hFr : ∀ q, F q → F q ∨ w.heap.size ≤ q := fun _ h => .inl h
 have hGlt := DLd.lt hl
 have hxlt := hGlt _ (DLd.at_ hl)
 have hGr : ∀ q, G q → G q ∨ w.heap.size ≤ q := fun _ h => .inl h
 have hHo9 : ∀ q, H q → 0 ≤ q := fun q _ => Nat.zero_le q
 have hFo9 : ∀ q, F q → 0 ≤ q := fun q _ => Nat.zero_le q
 have hGo9 : ∀ q, G q → 0 ≤ q := fun q _ => Nat.zero_le q
 have hDlt : ∀ q, D q → q < w.heap.size := fun q hq => (hDo q hq).1
 have hrl : RepL D w A cap kl := by rw [hc] at hrep; exact hrep.l
 have hck : c.k = kk := by rw [hc]; rfl
 have hct : c.to = to := by rw [hc]; rfl
 have hcn : c.n = m0 := by rw [hc]; rfl
 have hckl : c.kids = kl := by rw [hc]; rfl
 have hml : kl.length ≤ 9223372036854775807 := by rw [← hckl]; have h9 := hcok.l.1; unfold maxLen at h9; have h8 : c.kids.length ≤ 2 ^ 63 - 1 := h9; omega
 have hrtl := (DRf.rinv h).inn.tl
 obtain ⟨jt, hjt, hjl, htk, htm⟩ := trkA_at htr
 have hK0 : Keep (fun q => H q ∨ F q ∨ G q) w w := Keep.refl _ _
 refine eV ?_
 refine Vr <| Bx 26 [nt kk, nt to, nt m0, .slice A kl.length cap] ?_
 intro b1 w1 e1 hb1 k1 z1
 have hsz2 := Keep.size k1
 replace h := DRf.keep h k1 nk
 replace hV := DVt.keep hV k1 nk
 replace hl := DLd.keep hl k1 nk
 replace hrep := RepIn.keep hrep k1 nk
 replace hrl := RepL.keep hrl k1 nk
 replace hK0 := hK0.tn k1
 have hb1lt := hb1.lt
 refine On 3 [0, 1, 2, 4, 5, 9] <| Oe <| V_seq <| Vr <| La 0 [nt kk, nt to, nt m0, .slice A kl.length cap] 4 hb1 rfl rfl <| Kk (isC7_yes hc hok hcok hrep) fun w3 hk4 _ => ?_
 replace h := DRf.keep h hk4 nk
 replace hV := DVt.keep hV hk4 nk
 replace hl := DLd.keep hl hk4 nk
 replace hrl := RepL.keep hrl hk4 nk
 replace hK0 := hK0.tn hk4
 refine On 8 [0, 1, 2, 4, 5, 9, 27] <| Oq (u := .bool (decide (of < 0))) (v := .bool false) 27 (by rw [decide_eq_false (by omega : ¬ (of < 0))]) <| On 12 [0, 1, 2, 4, 5, 9, 27, 28, 31] ?_
 obtain ⟨hrv7, hHz7, hHlt7, A7, cap7, B7, capb7, hdz7⟩ := h
 have hz7 := hdz7.blk
 have hA7 := hdz7.tl
 have hB7 := hdz7.rl
 have hz7lt := hHlt _ hHz7
 have hrl7 := hrv7.inn.rl
 have htl7 := hrv7.inn.tl
 have hz7ow := hHo9 _ hHz7
 have owA7 : ∀ q, inA A7 q → 0 ≤ q ∧ q ≠ z ∧ q ≠ b1 := fun q hq => by obtain ⟨h1, h4⟩ := hdz7.za q hq; have h2 := hHlt q h1; have h3 := hHo9 q h1; omega
 have ltA7 := fun q (hq : inA A7 q) => hHlt q (hdz7.za q hq).1
 have owB7 : ∀ q, inA B7 q → 0 ≤ q ∧ q ≠ z ∧ q ≠ b1 := fun q hq => by obtain ⟨h1, h4⟩ := hdz7.zb q hq; have h2 := hHlt q h1; have h3 := hHo9 q h1; omega
 have ltB7 := fun q (hq : inA B7 q) => hHlt q (hdz7.zb q hq).1
 have own8 := fun q (hq : F q) => And.intro (hFo9 q hq) ((show q ≠ z from fun e => hHF z hHz7 (by rw [← e]; exact hq)))
 have own9 := fun q (hq : G q) => And.intro (hGo9 q hq) ((show q ≠ z from fun e => hHG z hHz7 (by rw [← e]; exact hq)))
 refine Lr 0 (.slice A7 ts.length cap7) hz7 <| Oen [0, 1, 2, 4, 5, 9, 35] <| Vp [(0, pt x),(1, pt y),(2, pt z),(4, nt of),(5, nt now),(9, pt b1),(35, .bool (decide (of ≥ (ts.length : Int))))] <| Vq (u := .bool (decide (of ≥ (ts.length : Int)))) (v := .bool false) 35 (by rw [decide_eq_false (by omega : ¬ (of ≥ (ts.length : Int)))]) <| Vf <| Vsk <| Vr <| On 3 [0, 1, 2, 4, 5, 9, 38] <| Lr 0 (.slice A7 ts.length cap7) hz7 <| On 5 [0, 1, 2, 4, 5, 9, 39, 40] ?_
 obtain ⟨b11, o11, L11, T11, rfl, hat11⟩ := SlT.opn hA7
 have hb11lt := hat11.blk.lt
 have hob12 := owA7 b11 ⟨_, rfl, rfl⟩
 have hob13 := ltA7 b11 ⟨_, rfl, rfl⟩
 have hne14 : ∀ q, inA B7 q → q ≠ b11 := fun q hq hs => (fun q h1 h2 => hdz7.ab q h2 h1) q hq ⟨_, rfl, hs⟩
 have own15 := fun q hq => And.intro (owB7 q hq) (hne14 q hq)
 have hne16 : ∀ q, F q → q ≠ b11 := fun q hq hs => (fun q h1 h2 => hHF q (hdz7.za q h2).1 h1) q hq ⟨_, rfl, hs⟩
 have own17 := fun q hq => And.intro (own8 q hq) (hne16 q hq)
 have hne18 : ∀ q, G q → q ≠ b11 := fun q hq hs => (fun q h1 h2 => hHG q (hdz7.za q h2).1 h1) q hq ⟨_, rfl, hs⟩
 have own19 := fun q hq => And.intro (own9 q hq) (hne18 q hq)
 refine Op_ [(0, pt x),(1, pt y),(2, pt z),(4, nt of),(5, nt now),(9, pt b1),(39, sl_ b11 o11 ts.length cap7),(40, nt of)] <| Oq (u := nt of) (v := nt (jt : Int)) 40 (by rw [hjt]) <| Oi (b := b11) (o := o11) (len := ts.length) (cap := cap7) (j := jt) (some 41) 67 (.tmp 39) (.tmp 40) 80 18 144 .i64 <| La (o11 + jt * 18) (Trk.cells (trkA ts of)) 18 hat11.blk (At.elem' hat11 (es_at htk)) (At.len hat11 (es_at htk)) <| Alc_ 80 (.agg (Trk.cells Trk.zero).toArray) (Trk.cells Trk.zero) ?_
 intro b20 w20 e20 hb20 k20 z20
 have hsz21 := Keep.size k20
 replace hb1 := hb1.k0 (hk4.tr k20)
 replace hz7 := hz7.k0 k20
 replace hat11 := hat11.keep k20 id
 replace hB7 := hB7.keep0 k20
 replace hV := DVt.keep hV k20 nk
 replace hl := DLd.keep hl k20 nk
 replace hrl := RepL.keep hrl k20 nk
 replace hK0 := hK0.tn k20
 skip
 have hb20lt := hb20.lt
 refine Sg 0 (Trk.cells (trkA ts of)) hb20 (Trk.len _) (Trk.one _) ?_
 intro w22 hb20_25 hk23 hz24
 replace hb20_25 : Blk w22 b20 (Trk.cells (trkA ts of)) 80 := (Blk.eqL (Trk.over _ _) hb20_25)
 have hsz26 := Keep.size hk23
 replace hb1 := hb1.k1 hk23
 replace hz7 := hz7.k1 hk23
 replace hat11 := hat11.keep hk23 (by show ¬ (_ = _); omega)
 replace hB7 := hB7.keep hk23 (fun q hq hs => by have hs : q = b20 := hs; have g0 := own15 q hq; have g1 := ltB7 q hq; omega)
 replace hV := DVt.keep hV hk23 (fun q hq hs => by have hs : q = b20 := hs; have g0 := own17 q hq; have g1 := hFlt q hq; omega)
 replace hl := DLd.keep hl hk23 (fun q hq hs => by have hs : q = b20 := hs; have g0 := own19 q hq; have g1 := hGlt q hq; omega)
 replace hrl := RepL.keep hrl hk23 (fun q hq hs => by have hs : q = b20 := hs; have g1 := hDlt q hq; omega)
 replace hK0 := Keep.fresh hK0 hk23 (by intro i hi hs; have hs2 : i = b20 := hs; exfalso; omega)
 skip
 refine Oe <| V_seq <| Vr <| On 1 [0, 1, 2, 4, 5, 9, 14, 43] <| Lr 0 (nt kk) hb1 <| Oe <| V_block <| Vn [0, 1, 2, 4, 5, 9, 14, 44, 45] <| Vi (kk = 1) (fun hc27 => ?_) (fun hc27 => ?_)
 ·
  refine Vr <| On 2 [47, 48] <| Lr 2 (nt m0) hb1 <| On 4 [50] <| OI_slit (E := 52) (zv := .agg #[nt 0, nt 0, nt 0]) (sz := 3) (by_ := 24) 27 1 #[(0, (Operand.tmp 50))] [.agg #[nt 5, nt of, nt m0]] [nt 5, nt of, nt m0] (some 51) (by kernel_rfl) (by kernel_rfl) (by kernel_rfl) (by omega) rfl (by omega) (by intro v hv; simp only [List.mem_cons, List.not_mem_nil, or_false] at hv; rcases hv with rfl <;> rfl) (by kernel_rfl) rfl ?_
  intro b28 w28 e28 hb28 k28 z28
  have hsz29 := Keep.size k28
  replace hz7 := hz7.k0 k28
  replace hat11 := hat11.keep k28 id
  replace hB7 := hB7.keep0 k28
  replace hV := DVt.keep hV k28 nk
  replace hl := DLd.keep hl k28 nk
  replace hK0 := hK0.tn k28
  skip
  have hb28lt := hb28.lt
  refine Oen [12, 13] <| V_ret <| X_ret_block <| X_ret_then ?_
  have ho30 : DRf H w28 z ts u.rs := ⟨hrv7, hHz7, (ltm hHlt7), _, _, _, _, ⟨by (try simp only [List.length_set]); exact hz7, At.slt hat11, hB7, hdz7.za, hdz7.zb, hdz7.ab⟩⟩
  have hE : doS ts of now dk c u = ([Evt.mk 5 of m0], 0, u) := doS_1 (hck.trans hc27) hcn
  rw [hE]
  exact Xr (.tuple #[sl_ b28 0 1 1, nt 0]) ⟨(some ⟨b28, 0, none⟩), 1, rfl, slt_blk (xs := [Evt.mk 5 of m0]) hb28 Evt.len rfl, (fun q h => by have h3 := inA_some h; omega), ⟨H, F, G, ho30, hV, hl, hHr, hFr, hGr, hHF, hHG, hFG, fun q h1 h2 => by have h3 := inA_some h1; have h4 := hHlt q h2; omega, fun q h1 h2 => by have h3 := inA_some h1; have h4 := hFlt q h2; omega, fun q h1 h2 => by have h3 := inA_some h1; have h4 := hGlt q h2; omega⟩, hK0⟩
 refine Vn [0, 1, 2, 4, 5, 9, 14, 44, 52] <| Vi (kk = 2) (fun hc31 => ?_) (fun hc31 => ?_)
 ·
  refine V_seq <| Vr <| On 1 [0, 9, 14, 54] <| Lr 2 (nt m0) hb1 <| On 3 [0, 9, 55, 56] <| Lr 16 (nt ((trkA ts of).cap)) hb20_25 <| Oen [0, 9, 58] <| Vi (m0 > (trkA ts of).cap) (fun hc32 => ?_) (fun hc32 => ?_)
  ·
   refine Vn [12, 13] <| Rt <| X_ret_block <| X_ret_then ?_
   have ho33 : DRf H w22 z ts u.rs := ⟨hrv7, hHz7, (ltm hHlt7), _, _, _, _, ⟨by (try simp only [List.length_set]); exact hz7, At.slt hat11, hB7, hdz7.za, hdz7.zb, hdz7.ab⟩⟩
   have hE : doS ts of now dk c u = ([], 10, u) := doS_2a (hck.trans hc31) hcn hc32
   rw [hE]
   exact Xr (.tuple #[.slice none 0 0, nt 10]) ⟨none, 0, rfl, SlT.nil _ _ _, (fun q h => (inA_none h).elim), ⟨H, F, G, ho33, hV, hl, hHr, hFr, hGr, hHF, hHG, hFG, fun q h => (inA_none h).elim, fun q h => (inA_none h).elim, fun q h => (inA_none h).elim⟩, hK0⟩
  refine Vsk <| Vr <| On 2 [9, 59, 60] <| Lr 1 (nt to) hb1 <| On 4 [9, 59, 61, 62] <| Lr 2 (nt m0) hb1 ?_
  have ho36 : DRf H w22 z ts u.rs := ⟨hrv7, hHz7, (ltm hHlt7), _, _, _, _, ⟨by (try simp only [List.length_set]); exact hz7, At.slt hat11, hB7, hdz7.za, hdz7.zb, hdz7.ab⟩⟩
  refine Kg (transfer6_spec G x u.xs u.cs 0 to m0 _ hl) ?_
  rintro _ w37 ⟨rfl, ⟨F39, ho40, hfr41⟩, hk38⟩
  refine ⟨_, rfl, ?_⟩
  have hsz42 := Keep.size hk38
  replace hb1 := hb1.keep hk38 (fun hs => by have h1 := own19 _ hs; have h2 := hGlt _ hs; omega)
  replace hV := DVt.keep hV hk38 (fun q hq hs => hFG q hq hs)
  replace hK0 := Keep.fresh hK0 hk38 (fun i hi hs => by rcases hGr i hs with h | h; exact .inr <| .inr <| h; (exfalso; omega))
  replace ho36 := DRf.keep ho36 hk38 (fun q hq hs => hHG q hq hs)
  have own44 : ∀ q, F39 q → 0 ≤ q ∧ q ≠ b11 ∧ q ≠ b1 ∧ q ≠ b20 := fun q hq => by rcases hfr41 q hq with h | h; (have h1 := own19 q h; have h2 := hGlt q h; omega); omega
  have lt43 := DLd.lt ho40
  have rel45 : ∀ q, F39 q → G q ∨ w.heap.size ≤ q := fun q hq => by rcases hfr41 q hq with h | h; exact hGr q h; exact .inr (by omega)
  have dis46 : ∀ q, F39 q → ¬ F q := fun q h1 h2 => by rcases hfr41 q h1 with h | h; exact hFG q h2 h; (have h4 := hFlt q h2; omega)
  have dis47 : ∀ q, F39 q → ¬ H q := fun q h1 h2 => by rcases hfr41 q h1 with h | h; exact hHG q h2 h; (have h4 := hHlt q h2; omega)
  refine On 7 [9, 15] <| Oe <| V_seq <| Vn [9, 15, 66] <| V_not (transE u.xs u.cs 0 to m0 = 0) (by kernel_rfl) (fun hc48 => ?_) (fun hc48 => ?_)
  ·
   refine Vn [12, 13] <| Rt <| X_ret_block <| X_ret_then ?_
   have hE : doS ts of now dk c u = ([], transE u.xs u.cs 0 to m0, rwTrn u 0 to m0) := doS_2b (hck.trans hc31) hct hcn hc32 hc48
   rw [hE]
   exact Xr (.tuple #[.slice none 0 0, nt (transE u.xs u.cs 0 to m0)]) ⟨none, 0, rfl, SlT.nil _ _ _, (fun q h => (inA_none h).elim), ⟨H, F, F39, ho36, hV, ho40, hHr, hFr, rel45, hHF, (fun q h1 h2 => dis47 q h2 h1),(fun q h1 h2 => dis46 q h2 h1), fun q h => (inA_none h).elim, fun q h => (inA_none h).elim, fun q h => (inA_none h).elim⟩, hK0⟩
  refine Vsk <| Vr <| On 1 [9, 68] <| Lr 1 (nt to) hb1 <| On 3 [69, 70] <| Lr 2 (nt m0) hb1 <| On 5 [72] <| OI_slit (E := 52) (zv := .agg #[nt 0, nt 0, nt 0]) (sz := 3) (by_ := 24) 27 1 #[(0, (Operand.tmp 72))] [.agg #[nt 3, nt to, nt m0]] [nt 3, nt to, nt m0] (some 73) (by kernel_rfl) (by kernel_rfl) (by kernel_rfl) (by omega) rfl (by omega) (by intro v hv; simp only [List.mem_cons, List.not_mem_nil, or_false] at hv; rcases hv with rfl <;> rfl) (by kernel_rfl) rfl ?_
  intro b49 w49 e49 hb49 k49 z49
  have hsz50 := Keep.size k49
  replace hV := DVt.keep hV k49 nk
  replace hK0 := hK0.tn k49
  replace ho36 := DRf.keep ho36 k49 nk
  replace ho40 := DLd.keep ho40 k49 nk
  have hb49lt := hb49.lt
  refine Oen [12, 13] <| V_ret <| X_ret_block <| X_ret_then ?_
  have hE : doS ts of now dk c u = ([Evt.mk 3 to m0], 0, rwTrn u 0 to m0) := doS_2c (hck.trans hc31) hct hcn hc32 hc48
  rw [hE]
  exact Xr (.tuple #[sl_ b49 0 1 1, nt 0]) ⟨(some ⟨b49, 0, none⟩), 1, rfl, slt_blk (xs := [Evt.mk 3 to m0]) hb49 Evt.len rfl, (fun q h => by have h3 := inA_some h; omega), ⟨H, F, F39, ho36, hV, ho40, hHr, hFr, rel45, hHF, (fun q h1 h2 => dis47 q h2 h1),(fun q h1 h2 => dis46 q h2 h1), fun q h1 h2 => by have h3 := inA_some h1; have h4 := hHlt q h2; omega, fun q h1 h2 => by have h3 := inA_some h1; have h4 := hFlt q h2; omega, fun q h1 h2 => by have h3 := inA_some h1; have h4 := lt43 q h2; omega⟩, hK0⟩
 refine Vn [0, 1, 2, 4, 5, 9, 14, 44, 74] <| Vi (kk = 3) (fun hc51 => ?_) (fun hc51 => ?_)
 ·
  refine V_seq <| Vr <| On 1 [1, 2, 5, 9, 76] <| Lr 17 (nt ((trkA ts of).rank)) hb20_25 <| Oen [1, 2, 5, 9, 78] <| Vi ((trkA ts of).rank < 1) (fun hc52 => ?_) (fun hc52 => ?_)
  ·
   refine Vn [12, 13] <| Rt <| X_ret_block <| X_ret_then ?_
   have ho53 : DRf H w22 z ts u.rs := ⟨hrv7, hHz7, (ltm hHlt7), _, _, _, _, ⟨by (try simp only [List.length_set]); exact hz7, At.slt hat11, hB7, hdz7.za, hdz7.zb, hdz7.ab⟩⟩
   have hE : doS ts of now dk c u = ([], 8, u) := doS_3a (hck.trans hc51) hc52
   rw [hE]
   exact Xr (.tuple #[.slice none 0 0, nt 8]) ⟨none, 0, rfl, SlT.nil _ _ _, (fun q h => (inA_none h).elim), ⟨H, F, G, ho53, hV, hl, hHr, hFr, hGr, hHF, hHG, hFG, fun q h => (inA_none h).elim, fun q h => (inA_none h).elim, fun q h => (inA_none h).elim⟩, hK0⟩
  refine Vsk <| Vr <| On 3 [5, 79, 80, 81] <| Lr 2 (nt m0) hb1 <| On 5 [79, 80, 82, 83] ?_
  have ho56 : DRf H w22 z ts u.rs := ⟨hrv7, hHz7, (ltm hHlt7), _, _, _, _, ⟨by (try simp only [List.length_set]); exact hz7, At.slt hat11, hB7, hdz7.za, hdz7.zb, hdz7.ab⟩⟩
  refine Kg (rcan12_spec H z ts u.rs F y u.s m0 now _ ho56 hV hHF) ?_
  rintro _ w57 ⟨A59, cap59, rfl, hA59, ow59, ⟨F60, F63, ho61, ho64, hfr62, hfr65, hdis66, dA67, dA68⟩, hk58⟩
  refine ⟨_, rfl, ?_⟩
  have hsz69 := Keep.size hk58
  replace hl := DLd.keep hl hk58 (fun q hq hs => by rcases hs with hs | hs; exact hHG q hs hq; exact hFG q hs hq)
  replace hK0 := Keep.fresh hK0 hk58 (fun i hi hs => by rcases hs with hs | hs; (rcases hHr i hs with h | h; exact .inl h; (exfalso; omega)); (rcases hFr i hs with h | h; exact .inr <| .inl h; (exfalso; omega)))
  have own71 : ∀ q, F60 q → 0 ≤ q ∧ q ≠ b20 := fun q hq => by rcases hfr62 q hq with h | h; (have h1 := hHo9 q h; have h2 := hHlt q h; omega); omega
  have lt70 := DRf.lt ho61
  have rel72 : ∀ q, F60 q → H q ∨ w.heap.size ≤ q := fun q hq => by rcases hfr62 q hq with h | h; exact hHr q h; exact .inr (by omega)
  have dis73 : ∀ q, F60 q → ¬ G q := fun q h1 h2 => by rcases hfr62 q h1 with h | h; exact hHG q h h2; (have h4 := hGlt q h2; omega)
  have own75 : ∀ q, F63 q → 0 ≤ q ∧ q ≠ b11 ∧ q ≠ b20 := fun q hq => by rcases hfr65 q hq with h | h; (have h1 := own17 q h; have h2 := hFlt q h; omega); omega
  have lt74 := DVt.lt ho64
  have rel76 : ∀ q, F63 q → F q ∨ w.heap.size ≤ q := fun q hq => by rcases hfr65 q hq with h | h; exact hFr q h; exact .inr (by omega)
  have dis77 : ∀ q, F63 q → ¬ G q := fun q h1 h2 => by rcases hfr65 q h1 with h | h; exact hFG q h h2; (have h4 := hGlt q h2; omega)
  have ltA59 := SlT.lt hA59
  have dis78 : ∀ q, inA A59 q → ¬ G q := fun q h1 h2 => by have h3 := ow59 q h1; have h4 := hGlt q h2; omega
  refine Oen [12, 13] <| V_ret <| X_ret_block <| X_ret_then ?_
  have hE : doS ts of now dk c u = (canL u.rs m0, ongE u.rs m0, rwCan u m0 now) := doS_3b (hck.trans hc51) hcn hc52
  rw [hE]
  exact Xr (.tuple #[.slice A59 ((canL u.rs m0).length) cap59, nt (ongE u.rs m0)]) ⟨A59, cap59, rfl, hA59, (fun q h => by have h1 := ow59 q h; omega), ⟨F60, F63, G, ho61, ho64, hl, rel72, rel76, hGr, hdis66, dis73, dis77, (dA67),(dA68),(dis78)⟩, hK0⟩
 refine Vn [0, 1, 2, 4, 5, 9, 14, 87] <| Vi (kk = 4) (fun hc79 => ?_) (fun hc79 => ?_)
 ·
  refine V_seq <| Vr <| On 1 [0, 1, 2, 5, 9, 89] <| Lr 17 (nt ((trkA ts of).rank)) hb20_25 <| Oen [0, 1, 2, 5, 9, 91] <| Vi ((trkA ts of).rank < 2) (fun hc80 => ?_) (fun hc80 => ?_)
  ·
   refine Vn [12, 13] <| Rt <| X_ret_block <| X_ret_then ?_
   have ho81 : DRf H w22 z ts u.rs := ⟨hrv7, hHz7, (ltm hHlt7), _, _, _, _, ⟨by (try simp only [List.length_set]); exact hz7, At.slt hat11, hB7, hdz7.za, hdz7.zb, hdz7.ab⟩⟩
   have hE : doS ts of now dk c u = ([], 8, u) := doS_4a (hck.trans hc79) hc80
   rw [hE]
   exact Xr (.tuple #[.slice none 0 0, nt 8]) ⟨none, 0, rfl, SlT.nil _ _ _, (fun q h => (inA_none h).elim), ⟨H, F, G, ho81, hV, hl, hHr, hFr, hGr, hHF, hHG, hFG, fun q h => (inA_none h).elim, fun q h => (inA_none h).elim, fun q h => (inA_none h).elim⟩, hK0⟩
  refine Vsk <| Vr <| On 4 [5, 92, 93, 94, 95] <| Lr 2 (nt m0) hb1 <| On 6 [92, 93, 94, 96, 97] ?_
  have ho84 : DRf H w22 z ts u.rs := ⟨hrv7, hHz7, (ltm hHlt7), _, _, _, _, ⟨by (try simp only [List.length_set]); exact hz7, At.slt hat11, hB7, hdz7.za, hdz7.zb, hdz7.ab⟩⟩
  refine Kg (rkil12_spec H z ts u.rs F y u.s G x u.xs u.cs m0 now _ ho84 hV hl hHF hHG hFG) ?_
  rintro _ w85 ⟨A87, cap87, rfl, hA87, ow87, ⟨F88, F91, F94, ho89, ho92, ho95, hfr90, hfr93, hfr96, hdis97, hdis98, hdis99, dA100, dA101, dA102⟩, hk86⟩
  refine ⟨_, rfl, ?_⟩
  have hsz103 := Keep.size hk86
  replace hK0 := Keep.fresh hK0 hk86 (fun i hi hs => by rcases hs with hs | hs | hs; (rcases hHr i hs with h | h; exact .inl h; (exfalso; omega)); (rcases hFr i hs with h | h; exact .inr <| .inl h; (exfalso; omega)); (rcases hGr i hs with h | h; exact .inr <| .inr <| h; (exfalso; omega)))
  have own105 : ∀ q, F88 q → 0 ≤ q ∧ q ≠ b20 := fun q hq => by rcases hfr90 q hq with h | h; (have h1 := hHo9 q h; have h2 := hHlt q h; omega); omega
  have lt104 := DRf.lt ho89
  have rel106 : ∀ q, F88 q → H q ∨ w.heap.size ≤ q := fun q hq => by rcases hfr90 q hq with h | h; exact hHr q h; exact .inr (by omega)
  have own108 : ∀ q, F91 q → 0 ≤ q ∧ q ≠ b11 ∧ q ≠ b20 := fun q hq => by rcases hfr93 q hq with h | h; (have h1 := own17 q h; have h2 := hFlt q h; omega); omega
  have lt107 := DVt.lt ho92
  have rel109 : ∀ q, F91 q → F q ∨ w.heap.size ≤ q := fun q hq => by rcases hfr93 q hq with h | h; exact hFr q h; exact .inr (by omega)
  have own111 : ∀ q, F94 q → 0 ≤ q ∧ q ≠ b11 ∧ q ≠ b20 := fun q hq => by rcases hfr96 q hq with h | h; (have h1 := own19 q h; have h2 := hGlt q h; omega); omega
  have lt110 := DLd.lt ho95
  have rel112 : ∀ q, F94 q → G q ∨ w.heap.size ≤ q := fun q hq => by rcases hfr96 q hq with h | h; exact hGr q h; exact .inr (by omega)
  have ltA87 := SlT.lt hA87
  refine Oen [12, 13] <| V_ret <| X_ret_block <| X_ret_then ?_
  have hE : doS ts of now dk c u = (kilL u.xs ts u.rs m0, ongE u.rs m0, rwKil ts u m0 now) := doS_4b (hck.trans hc79) hcn hc80
  rw [hE]
  exact Xr (.tuple #[.slice A87 ((kilL u.xs ts u.rs m0).length) cap87, nt (ongE u.rs m0)]) ⟨A87, cap87, rfl, hA87, (fun q h => by have h1 := ow87 q h; omega), ⟨F88, F91, F94, ho89, ho92, ho95, rel106, rel109, rel112, hdis97, hdis98, hdis99, (dA100),(dA101),(dA102)⟩, hK0⟩
 refine V_skip <| X_block <| X_then <| Vr <| On 1 [0, 1, 2, 4, 5, 9, 16] <| Oe <| V_seq <| Vn [0, 1, 2, 4, 5, 9, 16, 17] <| V_block ?_
 have ho113 : DRf H w22 z ts u.rs := ⟨hrv7, hHz7, (ltm hHlt7), _, _, _, _, ⟨by (try simp only [List.length_set]); exact hz7, At.slt hat11, hB7, hdz7.za, hdz7.zb, hdz7.ab⟩⟩
 have hk5 : kk = 5 := by have h9 := stC_iff.1 (show stepC true (okCA 2) (CA.mk kk to m0 A cap kl) = true by rw [← hc]; exact hok); rcases h9 with h | h | h | h <;> omega
 have hn4 := (hlen hk5).1
 refine Vp [(0, pt x),(1, pt y),(2, pt z),(4, nt of),(5, nt now),(9, pt b1),(16, .slice none 0 0),(17, nt 0)] <| V_loop (fun k wI e => ∃ i : Nat, ∃ ui : RW, ∃ A2 : Option Addr, ∃ cap2 : Nat, ∃ es : List Evt, ∃ F114 : Nat → Prop, ∃ F118 : Nat → Prop, ∃ F122 : Nat → Prop, (k + i = kl.length) ∧ (batS dk (kl.drop i) es ui = batS dk kl [] u) ∧ (es.length ≤ i * 300) ∧ (SlT wI 3 Evt.cells A2 cap2 es) ∧ (∀ q, inA A2 q → w22.heap.size ≤ q) ∧ (∀ q, inA A2 q → ¬ F114 q) ∧ (∀ q, inA A2 q → ¬ F118 q) ∧ (∀ q, inA A2 q → ¬ F122 q) ∧ (DRf F114 wI z ts ui.rs) ∧ (∀ q, F114 q → 0 ≤ q ∧ q ≠ b1 ∧ q ≠ b20) ∧ (∀ q, F114 q → H q ∨ w22.heap.size ≤ q) ∧ (DVt F118 wI y ui.s) ∧ (∀ q, F118 q → 0 ≤ q ∧ q ≠ b11 ∧ q ≠ b1 ∧ q ≠ b20) ∧ (∀ q, F118 q → F q ∨ w22.heap.size ≤ q) ∧ (∀ q, F118 q → ¬ F114 q) ∧ (DLd F122 wI x ui.xs ui.cs) ∧ (∀ q, F122 q → 0 ≤ q ∧ q ≠ b11 ∧ q ≠ b1 ∧ q ≠ b20) ∧ (∀ q, F122 q → G q ∨ w22.heap.size ≤ q) ∧ (∀ q, F122 q → ¬ F114 q) ∧ (∀ q, F122 q → ¬ F118 q) ∧ Keep (fun q9 => H q9 ∨ F q9 ∨ G q9) w22 wI ∧ e = [(0, pt x),(1, pt y),(2, pt z),(4, nt of),(5, nt now),(9, pt b1),(16, .slice A2 es.length cap2),(17, nt (i : Int))]) kl.length ⟨0, u, none, 0, [], H, F, G, by omega, rfl, by simp, SlT.nil _ _ _, fun q h => (inA_none h).elim, fun q h => (inA_none h).elim, fun q h => (inA_none h).elim, fun q h => (inA_none h).elim, ho113, (fun q hq => by have h1 := hHo9 q hq; have h2 := hHlt q hq; omega), fun q h => .inl h, hV, (fun q hq => by have h1 := own17 q hq; have h2 := hFlt q hq; omega), fun q h => .inl h, (fun q h1 h2 => hHF q h2 h1), hl, (fun q hq => by have h1 := own19 q hq; have h2 := hGlt q hq; omega), fun q h => .inl h, (fun q h1 h2 => hHG q h2 h1),(fun q h1 h2 => hFG q h2 h1), Keep.refl _ _, rfl⟩ ?_
 rintro k130 w129 _ ⟨i, ui, A2, cap2, es, F114, F118, F122, hki, hbs, hel, hA2, ow2, d20, d21, d22, ho115, own116, rel117, ho119, own120, rel121, dis126, ho123, own124, rel125, dis127, dis128, hk131, rfl⟩
 have hsz132 := Keep.size hk131
 replace hb1 := hb1.keep hk131 (fun hs => by rcases hs with hs | hs | hs; (have h1 := hHo9 _ hs; have h2 := hHlt _ hs; omega); (have h1 := own17 _ hs; have h2 := hFlt _ hs; omega); (have h1 := own19 _ hs; have h2 := hGlt _ hs; omega))
 replace hrl := RepL.keep hrl hk131 (fun q hq hs => by rcases hs with hs | hs | hs; exact (fun q h1 h2 => (hDo q h1).2.1 h2) q hq hs; exact (fun q h1 h2 => (hDo q h1).2.2.1 h2) q hq hs; exact (fun q h1 h2 => (hDo q h1).2.2.2 h2) q hq hs)
 replace hK0 := Keep.fresh hK0 hk131 (fun i hi hs => by rcases hs with hs | hs | hs; (rcases hHr i hs with h | h; exact .inl h; (exfalso; omega)); (rcases hFr i hs with h | h; exact .inr <| .inl h; (exfalso; omega)); (rcases hGr i hs with h | h; exact .inr <| .inr <| h; (exfalso; omega)))
 have hzhk131 := Keep.size hk131
 have lt133 := DRf.lt ho115
 have rel134 : ∀ q, F114 q → H q ∨ w.heap.size ≤ q := fun q hq => by rcases rel117 q hq with h | h; exact hHr q h; exact .inr (by omega)
 have hzlt : z < w129.heap.size := DRf.lt ho115 _ (DRf.at_ ho115)
 have lt135 := DVt.lt ho119
 have rel136 : ∀ q, F118 q → F q ∨ w.heap.size ≤ q := fun q hq => by rcases rel121 q hq with h | h; exact hFr q h; exact .inr (by omega)
 have hylt : y < w129.heap.size := DVt.lt ho119 _ (DVt.at_ ho119)
 have lt137 := DLd.lt ho123
 have rel138 : ∀ q, F122 q → G q ∨ w.heap.size ≤ q := fun q hq => by rcases rel125 q hq with h | h; exact hGr q h; exact .inr (by omega)
 have hxlt : x < w129.heap.size := DLd.lt ho123 _ (DLd.at_ ho123)
 have lt2 := SlT.lt hA2
 have hA := hrl.1
 refine V_seq <| Vr <| On 2 [0, 1, 2, 4, 5, 9, 16, 17, 101, 102] <| Lr 3 (.slice A kl.length cap) hb1 <| Oen [0, 1, 2, 4, 5, 9, 16, 17, 105] <| Vi ((i : Int) < (kl.length : Int)) (fun hc139 => ?_) (fun hc139 => ?_)
 ·
  refine Vsk <| V_seq <| V_block <| Vr <| On 4 [0, 1, 2, 4, 5, 9, 16, 17, 109, 110, 111, 112] <| Lr 3 (.slice A kl.length cap) hb1 <| On 6 [0, 1, 2, 4, 5, 9, 16, 17, 109, 110, 111, 113, 114] ?_
  obtain ⟨b140, o140, L140, rfl, hat140⟩ := ArgT.open_ hA (by first | omega | (simp only [List.length_map]; omega) | (simp; done) | (simp; omega))
  have hb140lt0 := ArgT.lt hA (by first | omega | (simp only [List.length_map]; omega) | (simp; done) | (simp; omega))
  have hb140lt := hat140.blk.lt
  refine Oi (b := b140) (o := o140) (len := kl.length) (cap := cap) (j := i) (some 115) 24 (.tmp 113) (.tmp 114) 26 4 48 .i64 ?_
  obtain ⟨x141, hx142⟩ := exAt (xs := kl) (i := i)
  refine OI_aggR 26 (.tmp 115) (o140 + i * 4) (CA.cells x141) (some 116) (by kernel_rfl) (by kernel_rfl) hat140.blk (m := 4) (by kernel_rfl) (AtR.elem' hat140 _ _ (es_at hx142)) (AtR.len hat140 (es_at hx142)) <| On 10 [0, 1, 2, 4, 5, 9, 16, 17, 109, 110, 111, 116, 117, 118] ?_
  have hlx := (hlen hk5).2 x141 (List.mem_of_getElem? hx142) ui
  have hDo2 : ∀ q, D q → q < w129.heap.size ∧ ¬ F114 q ∧ ¬ F118 q ∧ ¬ F122 q := fun q hq => ⟨by have h1 := hDlt q hq; omega, ((fun (q : Nat) (h1 : D q) (h2 : F114 q) => by rcases rel117 q h2 with h | h; exact (hDo q h1).2.1 h; (have h3 := hDlt q h1; omega))) q hq, ((fun (q : Nat) (h1 : D q) (h2 : F118 q) => by rcases rel121 q h2 with h | h; exact (hDo q h1).2.2.1 h; (have h3 := hDlt q h1; omega))) q hq, ((fun (q : Nat) (h1 : D q) (h2 : F122 q) => by rcases rel125 q h2 with h | h; exact (hDo q h1).2.2.2 h; (have h3 := hDlt q h1; omega))) q hq⟩
  refine Kg (hIH hk5 x141 (List.mem_of_getElem? hx142) D F114 F118 F122 ui _ (hrl.2.2 x141 (List.mem_of_getElem? hx142)) ho115 ho119 ho123 (fun q h1 h2 => dis126 q h2 h1) (fun q h1 h2 => dis127 q h2 h1) (fun q h1 h2 => dis128 q h2 h1) hDo2) ?_
  rintro _ w145 ⟨A147, cap147, rfl, hA147, ow147, ⟨F148, F151, F154, ho149, ho152, ho155, hfr150, hfr153, hfr156, hdis157, hdis158, hdis159, dA160, dA161, dA162⟩, hk146⟩
  refine ⟨_, rfl, ?_⟩
  have hsz163 := Keep.size hk146
  replace hA2 := hA2.keep hk146 (fun q hq hs => by rcases hs with hs | hs | hs; exact d20 q hq hs; exact d21 q hq hs; exact d22 q hq hs)
  replace hK0 := Keep.fresh hK0 hk146 (fun i hi hs => by rcases hs with hs | hs | hs; (rcases rel134 i hs with h | h; exact .inl h; (exfalso; omega)); (rcases rel136 i hs with h | h; exact .inr <| .inl h; (exfalso; omega)); (rcases rel138 i hs with h | h; exact .inr <| .inr <| h; (exfalso; omega)))
  replace hk131 := Keep.fresh hk131 hk146 (fun i hi hs => by rcases hs with hs | hs | hs; (rcases rel117 i hs with h | h; exact .inl h; (exfalso; omega)); (rcases rel121 i hs with h | h; exact .inr <| .inl h; (exfalso; omega)); (rcases rel125 i hs with h | h; exact .inr <| .inr <| h; (exfalso; omega)))
  have own165 : ∀ q, F148 q → 0 ≤ q ∧ q ≠ b1 ∧ q ≠ b20 := fun q hq => by rcases hfr150 q hq with h | h; (have h1 := own116 q h; have h2 := lt133 q h; omega); omega
  have lt164 := DRf.lt ho149
  have rel166 : ∀ q, F148 q → H q ∨ w22.heap.size ≤ q := fun q hq => by rcases hfr150 q hq with h | h; exact rel117 q h; exact .inr (by omega)
  have rel167 : ∀ q, F148 q → H q ∨ w.heap.size ≤ q := fun q hq => by rcases hfr150 q hq with h | h; exact rel134 q h; exact .inr (by omega)
  have dis168 : ∀ q, F148 q → ¬ inA A2 q := fun q h1 h2 => by rcases hfr150 q h1 with h | h; exact d20 q h2 h; (have h4 := lt2 q h2; omega)
  have own170 : ∀ q, F151 q → 0 ≤ q ∧ q ≠ b11 ∧ q ≠ b1 ∧ q ≠ b20 := fun q hq => by rcases hfr153 q hq with h | h; (have h1 := own120 q h; have h2 := lt135 q h; omega); omega
  have lt169 := DVt.lt ho152
  have rel171 : ∀ q, F151 q → F q ∨ w22.heap.size ≤ q := fun q hq => by rcases hfr153 q hq with h | h; exact rel121 q h; exact .inr (by omega)
  have rel172 : ∀ q, F151 q → F q ∨ w.heap.size ≤ q := fun q hq => by rcases hfr153 q hq with h | h; exact rel136 q h; exact .inr (by omega)
  have dis173 : ∀ q, F151 q → ¬ inA A2 q := fun q h1 h2 => by rcases hfr153 q h1 with h | h; exact d21 q h2 h; (have h4 := lt2 q h2; omega)
  have own175 : ∀ q, F154 q → 0 ≤ q ∧ q ≠ b11 ∧ q ≠ b1 ∧ q ≠ b20 := fun q hq => by rcases hfr156 q hq with h | h; (have h1 := own124 q h; have h2 := lt137 q h; omega); omega
  have lt174 := DLd.lt ho155
  have rel176 : ∀ q, F154 q → G q ∨ w22.heap.size ≤ q := fun q hq => by rcases hfr156 q hq with h | h; exact rel125 q h; exact .inr (by omega)
  have rel177 : ∀ q, F154 q → G q ∨ w.heap.size ≤ q := fun q hq => by rcases hfr156 q hq with h | h; exact rel138 q h; exact .inr (by omega)
  have dis178 : ∀ q, F154 q → ¬ inA A2 q := fun q h1 h2 => by rcases hfr156 q h1 with h | h; exact d22 q h2 h; (have h4 := lt2 q h2; omega)
  have ltA147 := SlT.lt hA147
  refine On 16 [0, 1, 2, 4, 5, 9, 16, 17, 18, 19] <| Oer <| On 2 [0, 1, 2, 4, 5, 9, 17, 19, 122, 123] ?_
  have hl179 : (dk x141 ui).1.length = ((dk x141 ui).1).length := rfl
  have hy179 := SlT.slr hA147
  refine OI_append (t := 27) (at2 := 27) (E := 52) (E2 := 52) (sz := 3) (by_ := 24) (zv := .agg #[nt 0, nt 0, nt 0]) (m := es.length) (k := ((dk x141 ui).1).length) (.tmp 122) (.tmp 123) (.slice A2 es.length cap2) (.slice A147 (((dk x141 ui).1).length) cap147) (some 124) (by kernel_rfl) (by kernel_rfl) (by kernel_rfl) (by kernel_rfl) (by kernel_rfl) (by kernel_rfl) (by kernel_rfl) (SlT.slr hA2) hy179 (fun u hu => by obtain ⟨z, _, hz⟩ := List.mem_flatMap.1 hu; exact Evt.one z u hz) (by first | omega | ((repeat first | rw [List.length_append] | rw [List.length_cons] | rw [List.length_nil] | rw [List.length_take] | rw [List.length_drop]) <;> omega)) (by omega) (by first | omega | ((repeat first | rw [List.length_append] | rw [List.length_cons] | rw [List.length_nil] | rw [List.length_take] | rw [List.length_drop]) <;> omega)) (by omega) ?_
  intro vv9 w179 hap
  obtain ⟨A179, cap179, rfl, hA179, hk179, own179x⟩ := app_many (f := Evt.cells) (xs := es) (ys := ((dk x141 ui).1)) (A := A2) (cap := cap2) hap hl179 Evt.len
  have own179 : ∀ q, inA A179 q → w22.heap.size ≤ q := fun q hq => by rcases own179x q hq with h | h; (have h8 := ow2 q h; have h9 := lt2 q h; show w22.heap.size ≤ q; omega); (show w22.heap.size ≤ q; omega)
  have hsz180 := Keep.size hk179
  replace hK0 := Keep.fresh hK0 hk179 (by intro i hi hs; first | exact hs | (exfalso; have h1 := ow2 i hs; have h2 := lt2 i hs; omega) | (have h1 := ow2 i hs; have h2 := lt2 i hs; show _ ∨ _; omega))
  replace hk131 := Keep.fresh hk131 hk179 (by intro i hi hs; first | exact hs | (exfalso; have h1 := ow2 i hs; have h2 := lt2 i hs; omega) | (have h1 := ow2 i hs; have h2 := lt2 i hs; show _ ∨ _; omega))
  replace ho149 := DRf.keep ho149 hk179 (fun q hq hs => dis168 q hq hs)
  replace ho152 := DVt.keep ho152 hk179 (fun q hq hs => dis173 q hq hs)
  replace ho155 := DLd.keep ho155 hk179 (fun q hq hs => dis178 q hq hs)
  have lt179 := SlT.lt hA179
  have hcap179 := SlT.cap_le hA179
  have dis181 : ∀ q, inA A179 q → ¬ F148 q := fun q h1 h2 => by rcases own179x q h1 with h | h; exact dis168 q h2 h; (have h4 := lt164 q h2; omega)
  have dis182 : ∀ q, inA A179 q → ¬ F151 q := fun q h1 h2 => by rcases own179x q h1 with h | h; exact dis173 q h2 h; (have h4 := lt169 q h2; omega)
  have dis183 : ∀ q, inA A179 q → ¬ F154 q := fun q h1 h2 => by rcases own179x q h1 with h | h; exact dis178 q h2 h; (have h4 := lt174 q h2; omega)
  refine On 4 [0, 1, 2, 4, 5, 9, 16, 17, 19] <| Oer <| Oen [0, 1, 2, 4, 5, 9, 16, 17, 19, 126] <| V_not ((dk x141 ui).2.1 = 0) (by kernel_rfl) (fun hc184 => ?_) (fun hc184 => ?_)
  ·
   refine Vn [12, 13] <| V_ret <| X_ret_block <| X_ret_then <| X_ret_then <| X_ret_block <| X_ret_then ?_
   have hE : doS ts of now dk c u = (es ++ (dk x141 ui).1, (dk x141 ui).2.1, (dk x141 ui).2.2) := (doS_5 (hck.trans hk5) hckl).trans (hbs.symm.trans (batS_no hx142 hc184))
   rw [hE]
   exact Xr (.tuple #[.slice A179 ((es ++ ((dk x141 ui).1)).length) cap179, nt ((dk x141 ui).2.1)]) ⟨A179, cap179, rfl, hA179, (fun q h => by have h1 := own179 q h; omega), ⟨F148, F151, F154, ho149, ho152, ho155, rel167, rel172, rel177, hdis157, hdis158, hdis159, (dis181),(dis182),(dis183)⟩, hK0⟩
  refine V_skip <| X_block <| X_then <| V_region ?_
  have hw185 : i64.wrap ((i : Int) + 1) = ((i + 1 : Nat) : Int) := wrp
  refine On 2 [0, 1, 2, 4, 5, 9, 16, 107] <| Oq (u := nt (i64.wrap ((i : Int) + 1))) (v := nt ((i + 1 : Nat) : Int)) 107 (by rw [hw185]) <| Os 3 [(0, pt x),(1, pt y),(2, pt z),(4, nt of),(5, nt now),(9, pt b1),(16, .slice A179 ((es ++ ((dk x141 ui).1)).length) cap179),(17, nt ((i + 1 : Nat) : Int))] <| OI_end rfl ?_
  have he0 : (dk x141 ui).2.1 = 0 := hc184
  exact V_again (k130 - 1) (by omega) [(0, pt x),(1, pt y),(2, pt z),(4, nt of),(5, nt now),(9, pt b1),(16, .slice A179 ((es ++ ((dk x141 ui).1)).length) cap179),(17, nt ((i + 1 : Nat) : Int))] rfl ⟨i + 1, (dk x141 ui).2.2, A179, cap179, (es ++ ((dk x141 ui).1)), F148, F151, F154, by omega, by rw [← batS_go hx142 he0]; exact hbs, by rw [List.length_append]; omega, hA179, own179, dis181, dis182, dis183, ho149, (fun q hq => by have h1 := own165 q hq; have h2 := lt164 q hq; omega), rel166, ho152, (fun q hq => by have h1 := own170 q hq; have h2 := lt169 q hq; omega), rel171, (fun q h1 h2 => hdis157 q h2 h1), ho155, (fun q hq => by have h1 := own175 q hq; have h2 := lt174 q hq; omega), rel176, (fun q h1 h2 => hdis158 q h2 h1),(fun q h1 h2 => hdis159 q h2 h1), hk131, rfl⟩
 refine V_exit <| X_exit_then <| X_exit_then <| X_exit_here <| X_then <| Vn [12, 13] <| V_ret ?_
 have he : i = kl.length := by omega
 have hE : doS ts of now dk c u = (es, 0, ui) := (doS_5 (hck.trans hk5) hckl).trans (by rw [← hbs, he, List.drop_length]; rfl)
 rw [hE]
 exact Xr (.tuple #[.slice A2 es.length cap2, nt 0]) ⟨A2, cap2, rfl, hA2, (fun q h => by have h1 := ow2 q h; omega), ⟨F114, F118, F122, ho115, ho119, ho123, rel134, rel136, rel138, (fun q h1 h2 => dis126 q h2 h1),(fun q h1 h2 => dis127 q h2 h1),(fun q h1 h2 => dis128 q h2 h1),(d20),(d21),(d22)⟩, hK0⟩
end Go.Al
namespace Go.Al
open Go Go.RowKit Go.Proofs
theorem stepC_mono {b b' : Bool} {ok ok' : CA → Bool} (hb : b = true → b' = true) (hk : ∀ x, ok x = true → ok' x = true) : ∀ {c : CA}, stepC b ok c = true → stepC b' ok' c = true
  | .mk k to n A cap kl, h => by
    rcases stC_iff.1 h with h | h | h | ⟨h1, h2, h3, h4, h5, h6⟩
    · exact stC_iff.2 (.inl h)
    · exact stC_iff.2 (.inr (.inl h))
    · exact stC_iff.2 (.inr (.inr (.inl h)))
    · exact stC_iff.2 (.inr (.inr (.inr ⟨h1, hb h2, h3, h4, h5, List.all_eq_true.2 (fun x hx => hk x (List.all_eq_true.1 h6 x hx))⟩)))
theorem okCA_mono : ∀ (f : Nat) (c : CA), okCA f c = true → okCA (f + 1) c = true
  | 0, _, h => stepC_mono (fun _ => rfl) (fun _ h => by cases h) h
  | f + 1, _, h => stepC_mono (fun h => h) (okCA_mono f) h
theorem okCA_3 {f : Nat} {c : CA} (hf : f ≤ 3) (h : okCA f c = true) : okCA 3 c = true := by
  match f, hf, h with
  | 0, _, h => exact okCA_mono 2 c (okCA_mono 1 c (okCA_mono 0 c h))
  | 1, _, h => exact okCA_mono 2 c (okCA_mono 1 c h)
  | 2, _, h => exact okCA_mono 2 c h
  | 3, _, h => exact h
theorem ddo_spec {z y x : Nat} {ts : List Trk} {of now : Int} (htr : 0 ≤ of ∧ of < ts.length) : ∀ (f : Nat), f ≤ 3 → ∀ (c : CA), CAok c → okCA f c = true → DDoAt z y x ts of now (doC ts of now f) c
  | 0, hf, .mk kk to m0 A cap kl, hcok, h => fun D H F G u w hrep hR hV hl h1 h2 h3 h4 => ddo_step z y x ts of now kk to m0 A cap kl _ rfl hcok _ (okCA_3 hf h) htr (fun h5 => by have := stepC_kids h h5; simp at this) (fun h5 => by have := stepC_kids h h5; simp at this) D H F G u w hrep hR hV hl h1 h2 h3 h4
  | f + 1, hf, .mk kk to m0 A cap kl, hcok, h => fun D H F G u w hrep hR hV hl h1 h2 h3 h4 => ddo_step z y x ts of now kk to m0 A cap kl _ rfl hcok _ (okCA_3 hf h) htr (fun h5 x9 hx => ddo_spec htr f (by omega) x9 (hcok.l.2 x9 hx) ((stepC_kids h h5).2.2 x9 hx)) (fun h5 => ⟨(stepC_kids h h5).2.1, fun x9 hx u => doC_len f (by omega) x9 u ((stepC_kids h h5).2.2 x9 hx)⟩) D H F G u w hrep hR hV hl h1 h2 h3 h4
set_option maxHeartbeats 4000000 in
theorem ddo_no (z y x : Nat) (ts : List Trk) (of now : Int) (kk to m0 : Int) (A : Option Addr) (cap : Nat) (kl : List CA) (c : CA) (hc : c = CA.mk kk to m0 A cap kl) (hcok : CAok c) (hno : okCA 3 c = false ∨ ¬ (0 ≤ of ∧ of < ts.length)) (D H F G : Nat → Prop) (u : RW) (w : World) (hrep : RepIn D w c) (h : DRf H w z ts u.rs) (hV : DVt F w y u.s) (hl : DLd G w x u.xs u.cs) (hHF : ∀ q, H q → ¬ F q) (hHG : ∀ q, H q → ¬ G q) (hFG : ∀ q, F q → ¬ G q) (hDo : ∀ q, D q → q < w.heap.size ∧ ¬ H q ∧ ¬ F q ∧ ¬ G q) : Calls Tryz.prog 15 #[pt x, pt y, pt z, .agg #[nt kk, nt to, nt m0, .slice A kl.length cap], nt of, nt now] w fun e w' => ∃ A' cap', e = .returned (.tuple #[.slice A' ((doD ts of now c u).1).length cap', nt ((doD ts of now c u).2.1)]) ∧ SlT w' 3 Evt.cells A' cap' ((doD ts of now c u).1) ∧ (∀ q, inA A' q → w.heap.size ≤ q) ∧ (∃ H' F' G', DRf H' w' z ts (doD ts of now c u).2.2.rs ∧ DVt F' w' y (doD ts of now c u).2.2.s ∧ DLd G' w' x (doD ts of now c u).2.2.xs (doD ts of now c u).2.2.cs ∧ (∀ q, H' q → H q ∨ w.heap.size ≤ q) ∧ (∀ q, F' q → F q ∨ w.heap.size ≤ q) ∧ (∀ q, G' q → G q ∨ w.heap.size ≤ q) ∧ (∀ q, H' q → ¬ F' q) ∧ (∀ q, H' q → ¬ G' q) ∧ (∀ q, F' q → ¬ G' q) ∧ (∀ q, inA A' q → ¬ H' q) ∧ (∀ q, inA A' q → ¬ F' q) ∧ (∀ q, inA A' q → ¬ G' q)) ∧ Keep (fun q => H q ∨ F q ∨ G q) w w' := by
 have hHlt := DRf.lt h
 have hzlt := hHlt _ (DRf.at_ h)
 have hHr : ∀ q, H q → H q ∨ w.heap.size ≤ q := fun _ h => .inl h
 have hFlt := DVt.lt hV
 have hylt := hFlt _ (DVt.at_ hV)
 have hFr : ∀ q, F q → F q ∨ w.heap.size ≤ q := fun _ h => .inl h
 have hGlt := DLd.lt hl
 have hxlt := hGlt _ (DLd.at_ hl)
 have hGr : ∀ q, G q → G q ∨ w.heap.size ≤ q := fun _ h => .inl h
 have hHo9 : ∀ q, H q → 0 ≤ q := fun q _ => Nat.zero_le q
 have hFo9 : ∀ q, F q → 0 ≤ q := fun q _ => Nat.zero_le q
 have hGo9 : ∀ q, G q → 0 ≤ q := fun q _ => Nat.zero_le q
 have hDlt : ∀ q, D q → q < w.heap.size := fun q hq => (hDo q hq).1
 have hrtl := (DRf.rinv h).inn.tl
 have hK0 : Keep (fun q => H q ∨ F q ∨ G q) w w := Keep.refl _ _
 refine eV ?_
 refine Vr <| Bx 26 [nt kk, nt to, nt m0, .slice A kl.length cap] ?_
 intro b1 w1 e1 hb1 k1 z1
 have hsz2 := Keep.size k1
 replace h := DRf.keep h k1 nk
 replace hV := DVt.keep hV k1 nk
 replace hl := DLd.keep hl k1 nk
 replace hrep := RepIn.keep hrep k1 nk
 replace hK0 := hK0.tn k1
 have hb1lt := hb1.lt
 refine On 3 [0, 1, 2, 4, 5, 9] <| Oe <| V_seq <| Vr <| La 0 [nt kk, nt to, nt m0, .slice A kl.length cap] 4 hb1 rfl rfl <| Kk (isC7_any hc hcok hrep) fun w3 hk4 _ => ?_
 replace h := DRf.keep h hk4 nk
 replace hV := DVt.keep hV hk4 nk
 replace hl := DLd.keep hl hk4 nk
 replace hK0 := hK0.tn hk4
 refine Os 4 [(0, pt x),(1, pt y),(2, pt z),(4, nt of),(5, nt now),(9, pt b1),(23, .bool (!(okCA 3 c)))] ?_
 cases hg6 : (!(okCA 3 c))
 ·
  refine OI_eq [(0, pt x),(1, pt y),(2, pt z),(4, nt of),(5, nt now),(9, pt b1),(23, .bool false)] (by first | rfl | rw [hg6]) <| On 8 [0, 1, 2, 4, 5, 9, 27] ?_
  by_cases hg7 : of < 0
  ·
   refine Oq (u := .bool (decide (of < 0))) (v := .bool true) 27 (by first | (rw [decide_eq_true hg7]; done) | (rw [decide_eq_true hg7]; rfl) | simp [hg7] | rfl) <| Oen [0, 1, 2, 4, 5, 9, 35] <| Vo <| Vn [12, 13] <| Rt ?_
   have hE : doD ts of now c u = ([], 1, u) := by unfold doD; refine if_pos ?_; rcases hno with h9 | h9; exact .inr h9; exact .inl (by unfold trkO; rw [if_neg h9]; rfl)
   rw [hE]
   exact Xr (.tuple #[.slice none 0 0, nt 1]) ⟨none, 0, rfl, SlT.nil _ _ _, (fun q h => (inA_none h).elim), ⟨H, F, G, h, hV, hl, hHr, hFr, hGr, hHF, hHG, hFG, fun q h => (inA_none h).elim, fun q h => (inA_none h).elim, fun q h => (inA_none h).elim⟩, hK0⟩
  refine Oq (u := .bool (decide (of < 0))) (v := .bool false) 27 (by first | (rw [decide_eq_false hg7]; done) | (rw [decide_eq_false hg7]; rfl) | simp [hg7] | rfl) <| On 12 [0, 1, 2, 4, 5, 9, 27, 28, 31] ?_
  obtain ⟨hrv8, hHz8, hHlt8, A8, cap8, B8, capb8, hdz8⟩ := h
  have hz8 := hdz8.blk
  have hA8 := hdz8.tl
  have hB8 := hdz8.rl
  have hz8lt := hHlt _ hHz8
  have hrl8 := hrv8.inn.rl
  have htl8 := hrv8.inn.tl
  have hz8ow := hHo9 _ hHz8
  have owA8 : ∀ q, inA A8 q → 0 ≤ q ∧ q ≠ z ∧ q ≠ b1 := fun q hq => by obtain ⟨h1, h4⟩ := hdz8.za q hq; have h2 := hHlt q h1; have h3 := hHo9 q h1; omega
  have ltA8 := fun q (hq : inA A8 q) => hHlt q (hdz8.za q hq).1
  have owB8 : ∀ q, inA B8 q → 0 ≤ q ∧ q ≠ z ∧ q ≠ b1 := fun q hq => by obtain ⟨h1, h4⟩ := hdz8.zb q hq; have h2 := hHlt q h1; have h3 := hHo9 q h1; omega
  have ltB8 := fun q (hq : inA B8 q) => hHlt q (hdz8.zb q hq).1
  have own9 := fun q (hq : F q) => And.intro (hFo9 q hq) ((show q ≠ z from fun e => hHF z hHz8 (by rw [← e]; exact hq)))
  have own10 := fun q (hq : G q) => And.intro (hGo9 q hq) ((show q ≠ z from fun e => hHG z hHz8 (by rw [← e]; exact hq)))
  refine Lr 0 (.slice A8 ts.length cap8) hz8 <| Oen [0, 1, 2, 4, 5, 9, 35] <| Vi (of ≥ (ts.length : Int)) (fun hc11 => ?_) (fun hc11 => ?_)
  ·
   refine Vn [12, 13] <| Rt ?_
   have ho12 : DRf H w3 z ts u.rs := ⟨hrv8, hHz8, (ltm hHlt8), _, _, _, _, ⟨by (try simp only [List.length_set]); exact hz8, hA8, hB8, hdz8.za, hdz8.zb, hdz8.ab⟩⟩
   have hE : doD ts of now c u = ([], 1, u) := by unfold doD; refine if_pos ?_; rcases hno with h9 | h9; exact .inr h9; exact .inl (by unfold trkO; rw [if_neg h9]; rfl)
   rw [hE]
   exact Xr (.tuple #[.slice none 0 0, nt 1]) ⟨none, 0, rfl, SlT.nil _ _ _, (fun q h => (inA_none h).elim), ⟨H, F, G, ho12, hV, hl, hHr, hFr, hGr, hHF, hHG, hFG, fun q h => (inA_none h).elim, fun q h => (inA_none h).elim, fun q h => (inA_none h).elim⟩, hK0⟩
  exfalso
  rcases hno with h9 | h9
  · have h8 : okCA 3 c = true := by simpa using hg6
    rw [h9] at h8; cases h8
  · omega
 refine OI_eq [(0, pt x),(1, pt y),(2, pt z),(4, nt of),(5, nt now),(9, pt b1),(23, .bool true)] (by first | rfl | rw [hg6]) <| Oen [0, 1, 2, 4, 5, 9, 35] <| Vo <| Vn [12, 13] <| Rt ?_
 have hE : doD ts of now c u = ([], 1, u) := by unfold doD; refine if_pos ?_; rcases hno with h9 | h9; exact .inr h9; exact .inl (by unfold trkO; rw [if_neg h9]; rfl)
 rw [hE]
 exact Xr (.tuple #[.slice none 0 0, nt 1]) ⟨none, 0, rfl, SlT.nil _ _ _, (fun q h => (inA_none h).elim), ⟨H, F, G, h, hV, hl, hHr, hFr, hGr, hHF, hHG, hFG, fun q h => (inA_none h).elim, fun q h => (inA_none h).elim, fun q h => (inA_none h).elim⟩, hK0⟩
theorem ddo_all (z y x : Nat) (ts : List Trk) (of now : Int) : ∀ (c : CA), CAok c → DDoAt z y x ts of now (doD ts of now) c
  | .mk kk to m0 A cap kl, hcok => by
    intro D H F G u w hrep hR hV hl h1 h2 h3 h4
    by_cases hok : okCA 3 (CA.mk kk to m0 A cap kl) = true
    · by_cases htr : 0 ≤ of ∧ of < ts.length
      · have hE : doD ts of now (CA.mk kk to m0 A cap kl) u = doC ts of now 3 (CA.mk kk to m0 A cap kl) u := by
          unfold doD
          refine if_neg ?_
          rintro (h | h)
          · unfold trkO at h; rw [if_pos htr, List.getElem?_eq_getElem (by omega)] at h; cases h
          · rw [hok] at h; cases h
        rw [hE]
        exact ddo_spec htr 3 (by omega) _ hcok hok D H F G u w hrep hR hV hl h1 h2 h3 h4
      · exact ddo_no z y x ts of now kk to m0 A cap kl _ rfl hcok (.inr htr) D H F G u w hrep hR hV hl h1 h2 h3 h4
    · exact ddo_no z y x ts of now kk to m0 A cap kl _ rfl hcok (.inl (by simpa using hok)) D H F G u w hrep hR hV hl h1 h2 h3 h4
end Go.Al
namespace Go.Al
open Go Go.RowKit Go.Proofs
def DoesAt (d r g : Nat) (ts : List Trk) (v l : Nat) (of now : Int) (dk : CA → RW → RsA) (c : CA) : Prop := ∀ (D H F G : Nat → Prop) (u : RW) (w : World), RepIn D w c → Blk w d [pt l, pt v, pt r, nt of, nt now] 86 → Rfr H w r g ts u.rs → VotT F w v u.s → Led G w l u.xs u.cs → (∀ q, H q → ¬ F q) → (∀ q, H q → ¬ G q) → (∀ q, F q → ¬ G q) → (∀ q, D q → q < w.heap.size ∧ ¬ H q ∧ ¬ F q ∧ ¬ G q) → (¬ H d ∧ ¬ F d ∧ ¬ G d) → Calls Tryz.prog 28 #[pt d, .agg c.cells.toArray] w fun e w' => ∃ A' cap', e = .returned (.tuple #[.slice A' ((dk c u).1).length cap', nt ((dk c u).2.1)]) ∧ SlT w' 3 Evt.cells A' cap' ((dk c u).1) ∧ (∀ q, inA A' q → w.heap.size ≤ q) ∧ (∃ H' F' G', Rfr H' w' r g ts (dk c u).2.2.rs ∧ VotT F' w' v (dk c u).2.2.s ∧ Led G' w' l (dk c u).2.2.xs (dk c u).2.2.cs ∧ (∀ q, H' q → H q ∨ w.heap.size ≤ q) ∧ (∀ q, F' q → F q ∨ w.heap.size ≤ q) ∧ (∀ q, G' q → G q ∨ w.heap.size ≤ q) ∧ (∀ q, H' q → ¬ F' q) ∧ (∀ q, H' q → ¬ G' q) ∧ (∀ q, F' q → ¬ G' q) ∧ (∀ q, inA A' q → ¬ H' q) ∧ (∀ q, inA A' q → ¬ F' q) ∧ (∀ q, inA A' q → ¬ G' q)) ∧ Keep (fun q => q = g ∨ F q ∨ G q) w w'
set_option maxHeartbeats 2000000 in
theorem spend_spec (t : Trk) (c : CA) (d v l r : Nat) (of now : Int) (G : Nat → Prop) (u : RW) (w : World) (hd : Blk w d [pt l, pt v, pt r, nt of, nt now] 86) (hl : Led G w l u.xs u.cs) (hdG : ¬ G d) : Calls Tryz.prog 60 #[pt d, .agg t.cells.toArray, .agg c.cells.toArray] w fun e w' => ∃ A' cap', e = .returned (.tuple #[.slice A' (spS t c u).1.length cap', nt (spS t c u).2.1]) ∧ SlT w' 3 Evt.cells A' cap' (spS t c u).1 ∧ (∀ q, inA A' q → w.heap.size ≤ q) ∧ (∃ G', Led G' w' l (spS t c u).2.2.xs (spS t c u).2.2.cs ∧ (∀ q, G' q → G q ∨ w.heap.size ≤ q) ∧ (∀ q, inA A' q → ¬ G' q)) ∧ Keep G w w' := by
 have hdlt := hd.lt
 have hGlt := Led.lt hl
 have hGd : ∀ q, G q → 0 ≤ q ∧ q ≠ d := fun q hq => ⟨Nat.zero_le _, fun e => hdG (e ▸ hq)⟩
 have hGr : ∀ q, G q → G q ∨ w.heap.size ≤ q := fun _ h => .inl h
 have hK0 := Keep.refl G w
 refine eV ?_
 refine Vr <| OI_box 80 (.tmp 1) (.agg (Trk.cells t).toArray) (Trk.cells t) (some 4) (by kernel_rfl) (by kernel_rfl) rfl ?_
 intro b1 w1 e1 hb1 k1 z1
 have hsz2 := Keep.size k1
 replace hl := hl.keep k1 nk
 replace hK0 := hK0.tn k1
 have hb1lt := hb1.lt
 refine OI_box 26 (.tmp 2) (.agg (CA.cells c).toArray) (CA.cells c) (some 5) (by kernel_rfl) (by kernel_rfl) rfl ?_
 intro b3 w3 e3 hb3 k3 z3
 have hsz4 := Keep.size k3
 replace hd := hd.k0 (k1.tr k3)
 replace hb1 := hb1.k0 k3
 replace hl := hl.keep k3 nk
 replace hK0 := hK0.tn k3
 have hb3lt := hb3.lt
 refine On 4 [0, 4, 5] <| Oe <| V_seq <| Vr <| On 1 [0, 4, 5, 9] <| Lr 2 (nt c.n) hb3 <| On 3 [0, 5, 10, 11] <| Lr 16 (nt t.cap) hb1 <| Oen [0, 5, 13] <| Vi (c.n > t.cap) (fun hc5 => ?_) (fun hc5 => ?_)
 ·
  refine Vn [6, 7] <| Rt ?_
  have hE6 : spS t c u = ([], 10, u) := if_pos hc5
  rw [hE6]
  exact Xr (.tuple #[.slice none 0 0, nt 10]) ⟨none, 0, rfl, SlT.nil _ _ _, (fun q h => (inA_none h).elim), ⟨G, hl, hGr, fun q h => (inA_none h).elim⟩, hK0⟩
 refine Vsk <| V_seq <| V_seq <| Vd1 (acts [8]) none_ [0, 1, 2, 3, 4, 5, 6, 7, 8, 9] fun w8 hk7 he9 K12 _ => ?_
 replace hd := hd.k0 hk7
 replace hb3 := hb3.k0 hk7
 replace hl := hl.keep hk7 nk
 replace hK0 := hK0.tn hk7
 have qhd := hd
 have qhb3 := hb3
 refine Gn [3, 4, 5, 6, 7, 8, 9] [5, 16] <| Mr 0 (pt l) qhd <| Gn [5, 6, 7, 8, 9] [5, 17, 18] <| Mr 1 (nt c.to) qhb3 <| Gn [7, 8, 9] [5, 17, 19, 20] <| Mr 2 (nt c.n) qhb3 <| Jg (transfer_spec G l u.xs u.cs 0 c.to c.n _ hl) ?_
 rintro _ w13 ⟨rfl, ⟨F15, ho16, hfr17⟩, hk14⟩
 refine ⟨_, rfl, ?_⟩
 have hsz18 := Keep.size hk14
 replace hb3 := hb3.keep hk14 (fun hs => by have h1 := hGd _ hs; have h2 := hGlt _ hs; omega)
 replace hK0 := frr hK0 hk14 hGr
 have own20 : ∀ q, F15 q → 0 ≤ q ∧ q ≠ d ∧ q ≠ b1 ∧ q ≠ b3 := fun q hq => by rcases hfr17 q hq with h | h; (have h1 := hGd q h; have h2 := hGlt q h; omega); omega
 have lt19 := Led.lt ho16
 have rel21 : ∀ q, F15 q → G q ∨ w.heap.size ≤ q := fun q hq => by rcases hfr17 q hq with h | h; exact hGr q h; exact .inr (by omega)
 refine Gn [] [5, 8] <| GI_end <| X_then <| Vn [5, 8, 24] <| V_not (transE u.xs u.cs 0 c.to c.n = 0) (by kernel_rfl) (fun hc22 => ?_) (fun hc22 => ?_)
 ·
  refine Vn [6, 7] <| Rt ?_
  have hE23 : spS t c u = ([], transE u.xs u.cs 0 c.to c.n, rwTrn u 0 c.to c.n) := by unfold spS; rw [if_neg hc5, if_pos hc22]
  rw [hE23]
  exact Xr (.tuple #[.slice none 0 0, nt (transE u.xs u.cs 0 c.to c.n)]) ⟨none, 0, rfl, SlT.nil _ _ _, (fun q h => (inA_none h).elim), ⟨F15, ho16, rel21, fun q h => (inA_none h).elim⟩, hK0⟩
 refine Vsk <| Vr <| On 1 [5, 26] <| Lr 1 (nt c.to) hb3 <| On 3 [27, 28] <| Lr 2 (nt c.n) hb3 <| On 5 [30] <| OI_slit (E := 52) (zv := .agg #[nt 0, nt 0, nt 0]) (sz := 3) (by_ := 24) 27 1 #[(0, (Operand.tmp 30))] [.agg #[nt 3, nt c.to, nt c.n]] [nt 3, nt c.to, nt c.n] (some 31) (by kernel_rfl) (by kernel_rfl) (by kernel_rfl) (by omega) rfl (by omega) (by intro v hv; simp only [List.mem_cons, List.not_mem_nil, or_false] at hv; rcases hv with rfl <;> rfl) (by kernel_rfl) rfl ?_
 intro b24 w24 e24 hb24 k24 z24
 have hsz25 := Keep.size k24
 replace hK0 := hK0.tn k24
 replace ho16 := ho16.keep k24 nk
 have hb24lt := hb24.lt
 refine Oen [6, 7] <| V_ret ?_
 have hE26 : spS t c u = ([Evt.mk 3 c.to c.n], 0, rwTrn u 0 c.to c.n) := by unfold spS; rw [if_neg hc5, if_neg (fun h => h hc22)]
 rw [hE26]
 exact Xr (.tuple #[sl_ b24 0 1 1, nt 0]) ⟨(some ⟨b24, 0, none⟩), 1, rfl, slt_blk (xs := [Evt.mk 3 c.to c.n]) hb24 Evt.len rfl, (fun q h => by have h3 := inA_some h; omega), ⟨F15, ho16, rel21, fun q h1 h2 => by have h3 := inA_some h1; have h4 := lt19 q h2; omega⟩, hK0⟩
end Go.Al
namespace Go.Al
open Go Go.RowKit Go.Proofs
set_option maxHeartbeats 2000000 in
theorem batch_spec (D : Nat → Prop) (A : Option Addr) (cap : Nat) (kl : List CA) (d r g : Nat) (ts : List Trk) (v l : Nat) (of now : Int) (dk : CA → RW → RsA) (H F G : Nat → Prop) (u : RW) (w : World) (hIH : ∀ x ∈ kl, DoesAt d r g ts v l of now dk x) (hlen : ∀ x ∈ kl, ∀ u, (dk x u).1.length ≤ 300) (hrep : RepL D w A cap kl) (hd : Blk w d [pt l, pt v, pt r, nt of, nt now] 86) (hR : Rfr H w r g ts u.rs) (hV : VotT F w v u.s) (hl : Led G w l u.xs u.cs) (hHF : ∀ q, H q → ¬ F q) (hHG : ∀ q, H q → ¬ G q) (hFG : ∀ q, F q → ¬ G q) (hDo : ∀ q, D q → q < w.heap.size ∧ ¬ H q ∧ ¬ F q ∧ ¬ G q) (hdo : ¬ H d ∧ ¬ F d ∧ ¬ G d) (hn4 : kl.length ≤ 4) : Calls Tryz.prog 61 #[pt d, .slice A kl.length cap] w fun e w' => ∃ A' cap', e = .returned (.tuple #[.slice A' ((batS dk kl [] u).1).length cap', nt ((batS dk kl [] u).2.1)]) ∧ SlT w' 3 Evt.cells A' cap' ((batS dk kl [] u).1) ∧ (∀ q, inA A' q → w.heap.size ≤ q) ∧ (∃ H' F' G', Rfr H' w' r g ts (batS dk kl [] u).2.2.rs ∧ VotT F' w' v (batS dk kl [] u).2.2.s ∧ Led G' w' l (batS dk kl [] u).2.2.xs (batS dk kl [] u).2.2.cs ∧ (∀ q, H' q → H q ∨ w.heap.size ≤ q) ∧ (∀ q, F' q → F q ∨ w.heap.size ≤ q) ∧ (∀ q, G' q → G q ∨ w.heap.size ≤ q) ∧ (∀ q, H' q → ¬ F' q) ∧ (∀ q, H' q → ¬ G' q) ∧ (∀ q, F' q → ¬ G' q) ∧ (∀ q, inA A' q → ¬ H' q) ∧ (∀ q, inA A' q → ¬ F' q) ∧ (∀ q, inA A' q → ¬ G' q)) ∧ Keep (fun q => q = g ∨ F q ∨ G q) w w' := by
 have hdlt := hd.lt
 have hHlt := Rfr.lt hR
 have hFlt := VotT.lt hV
 have hGlt := Led.lt hl
 have hgH : H g := Rfr.atg hR
 have hHd : ∀ q, H q → 0 ≤ q ∧ q ≠ d := fun q hq => ⟨Nat.zero_le _, fun e => hdo.1 (e ▸ hq)⟩
 have hFd : ∀ q, F q → 0 ≤ q ∧ q ≠ d := fun q hq => ⟨Nat.zero_le _, fun e => hdo.2.1 (e ▸ hq)⟩
 have hGd : ∀ q, G q → 0 ≤ q ∧ q ≠ d := fun q hq => ⟨Nat.zero_le _, fun e => hdo.2.2 (e ▸ hq)⟩
 have hgo : ∀ q, only g q → q ≠ d ∧ q = g := fun q hq => ⟨fun e => hdo.1 (by rw [← e, show q = g from hq]; exact hgH), hq⟩
 have hgl : ∀ q, only g q → q < w.heap.size := fun q hq => by rw [show q = g from hq]; exact hHlt _ hgH
 have hHr : ∀ q, H q → H q ∨ w.heap.size ≤ q := fun _ h => .inl h
 have hFr : ∀ q, F q → F q ∨ w.heap.size ≤ q := fun _ h => .inl h
 have hGr : ∀ q, G q → G q ∨ w.heap.size ≤ q := fun _ h => .inl h
 have hDlt : ∀ q, D q → q < w.heap.size := fun q hq => (hDo q hq).1
 have hK0 : Keep (fun q => q = g ∨ F q ∨ G q) w w := Keep.refl _ _
 refine eV ?_
 refine Vr <| On 2 [0, 1] <| Oer <| On 1 [0, 1, 6] <| Oe <| V_seq <| Vn [0, 6, 11, 12, 13] <| V_block <| Vp [(0, pt d),(6, .slice none 0 0),(11, .slice A kl.length cap),(12, nt (kl.length : Int)),(13, nt 0)] <| V_loop (fun k wI e => ∃ i : Nat, ∃ ui : RW, ∃ Hk : Nat → Prop, ∃ Fk : Nat → Prop, ∃ Gk : Nat → Prop, ∃ A2 : Option Addr, ∃ cap2 : Nat, ∃ es : List Evt, (k + i = kl.length) ∧ (batS dk (kl.drop i) es ui = batS dk kl [] u) ∧ (es.length ≤ i * 300) ∧ (Rfr Hk wI r g ts ui.rs) ∧ (VotT Fk wI v ui.s) ∧ (Led Gk wI l ui.xs ui.cs) ∧ (∀ q, Hk q → H q ∨ w.heap.size ≤ q) ∧ (∀ q, Fk q → F q ∨ w.heap.size ≤ q) ∧ (∀ q, Gk q → G q ∨ w.heap.size ≤ q) ∧ (∀ q, Hk q → ¬ Fk q) ∧ (∀ q, Hk q → ¬ Gk q) ∧ (∀ q, Fk q → ¬ Gk q) ∧ (SlT wI 3 Evt.cells A2 cap2 es) ∧ (∀ q, inA A2 q → w.heap.size ≤ q) ∧ (∀ q, inA A2 q → ¬ Hk q) ∧ (∀ q, inA A2 q → ¬ Fk q) ∧ (∀ q, inA A2 q → ¬ Gk q) ∧ Keep (fun q => q = g ∨ F q ∨ G q) w wI ∧ e = [(0, pt d),(6, .slice A2 es.length cap2),(11, .slice A kl.length cap),(12, nt (kl.length : Int)),(13, nt (i : Int))]) kl.length ⟨0, u, H, F, G, none, 0, [], by omega, rfl, by simp, hR, hV, hl, hHr, hFr, hGr, hHF, hHG, hFG, SlT.nil _ _ _, fun q h => (inA_none h).elim, fun q h => (inA_none h).elim, fun q h => (inA_none h).elim, fun q h => (inA_none h).elim, Keep.refl _ _, rfl⟩ ?_
 rintro k2 w1 _ ⟨i, ui, Hk, Fk, Gk, A2, cap2, es, hki, hbs, hel, hRk, hVk, hLk, hHkr, hFkr, hGkr, dkHF, dkHG, dkFG, hA2, ow2, d2H, d2F, d2G, hk3, rfl⟩
 have hsz4 := Keep.size hk3
 replace hd := hd.keep hk3 (fun hs => by rcases hs with hs | hs | hs; exact hdo.1 (by rw [show d = g from hs]; exact hgH); exact hdo.2.1 hs; exact hdo.2.2 hs)
 replace hrep := RepL.keep hrep hk3 (fun q hq hs => by rcases hs with hs | hs | hs; exact (hDo q hq).2.1 (by rw [show q = g from hs]; exact hgH); exact (hDo q hq).2.2.1 hs; exact (hDo q hq).2.2.2 hs)
 replace hK0 := Keep.fresh hK0 hk3 (fun i hi hs => hs)
 have hzhk3 := Keep.size hk3
 have hHko : ∀ q, Hk q → 0 ≤ q ∧ q ≠ d := fun q hq => ⟨Nat.zero_le _, fun e => by rcases hHkr q hq with h | h; exact hdo.1 (e ▸ h); omega⟩
 have hFko : ∀ q, Fk q → 0 ≤ q ∧ q ≠ d := fun q hq => ⟨Nat.zero_le _, fun e => by rcases hFkr q hq with h | h; exact hdo.2.1 (e ▸ h); omega⟩
 have hGko : ∀ q, Gk q → 0 ≤ q ∧ q ≠ d := fun q hq => ⟨Nat.zero_le _, fun e => by rcases hGkr q hq with h | h; exact hdo.2.2 (e ▸ h); omega⟩
 have hHklt := Rfr.lt hRk
 have hFklt := VotT.lt hVk
 have hGklt := Led.lt hLk
 have lt2 := SlT.lt hA2
 have hA := hrep.1
 refine Vn [0, 6, 11, 12, 13, 14] <| V_seq <| Vi ((i : Int) < (kl.length : Int)) (fun hc5 => ?_) (fun hc5 => ?_)
 ·
  refine Vsk <| V_seq <| V_block <| Vr ?_
  obtain ⟨b6, o6, L6, rfl, hat6⟩ := ArgT.open_ hA (by first | omega | (simp only [List.length_map]; omega) | (simp; done) | (simp; omega))
  have hb6lt0 := ArgT.lt hA (by first | omega | (simp only [List.length_map]; omega) | (simp; done) | (simp; omega))
  have hb6lt := hat6.blk.lt
  refine Oi (b := b6) (o := o6) (len := kl.length) (cap := cap) (j := i) (some 15) 24 (.tmp 11) (.tmp 13) 26 4 48 .i64 ?_
  obtain ⟨x7, hx8⟩ := exAt (xs := kl) (i := i)
  refine OI_aggR 26 (.tmp 15) (o6 + i * 4) (CA.cells x7) (some 16) (by kernel_rfl) (by kernel_rfl) hat6.blk (m := 4) (by kernel_rfl) (AtR.elem' hat6 _ _ (es_at hx8)) (AtR.len hat6 (es_at hx8)) <| Alc_ 26 (.agg #[nt 0, nt 0, nt 0, .slice none 0 0]) [nt 0, nt 0, nt 0, .slice none 0 0] ?_
  intro b9 w9 e9 hb9 k9 z9
  have hsz10 := Keep.size k9
  replace hd := hd.k0 k9
  replace hA2 := hA2.keep0 k9
  replace hrep := RepL.keep hrep k9 nk
  replace hK0 := hK0.tn k9
  replace hk3 := hk3.tn k9
  replace hRk := hRk.keep k9 nk
  replace hVk := hVk.keep k9 nk
  replace hLk := hLk.keep k9 nk
  have hb9lt := hb9.lt
  refine Sg 0 (CA.cells x7) hb9 (CA.len _) (CA.one _) ?_
  intro w11 hb9_14 hk12 hz13
  replace hb9_14 : Blk w11 b9 (CA.cells x7) 26 := (by rwa [over_whole (by rw [CA.len]; rfl)] at hb9_14)
  have hsz15 := Keep.size hk12
  replace hd := hd.k1 hk12
  replace hA2 := hA2.keep hk12 (fun q hq hs => by have hs : q = b9 := hs; have g0 := ow2 q hq; have g1 := lt2 q hq; omega)
  replace hrep := RepL.keep hrep hk12 (fun q hq hs => by have hs : q = b9 := hs; have g1 := hDlt q hq; omega)
  replace hK0 := Keep.fr hK0 hk12
  replace hk3 := Keep.fr hk3 hk12
  replace hRk := hRk.keep hk12 (fun q hq hs => by have hs : q = b9 := hs; have g0 := hHko q hq; have g1 := hHklt q hq; omega)
  replace hVk := hVk.keep hk12 (fun q hq hs => by have hs : q = b9 := hs; have g0 := hFko q hq; have g1 := hFklt q hq; omega)
  replace hLk := hLk.keep hk12 (fun q hq hs => by have hs : q = b9 := hs; have g0 := hGko q hq; have g1 := hGklt q hq; omega)
  refine Oer <| On 1 [0, 6, 8, 11, 12, 13, 18] <| La 0 (CA.cells x7) 4 hb9_14 (take_all (CA.len _)) (CA.len _) ?_
  have hlx := hlen x7 (List.mem_of_getElem? hx8) ui
  have hDo2 : ∀ q, D q → q < w11.heap.size ∧ ¬ Hk q ∧ ¬ Fk q ∧ ¬ Gk q := fun q hq => ⟨by have h1 := hDlt q hq; omega, ((fun (q : Nat) (h1 : D q) (h2 : Hk q) => by rcases hHkr q h2 with h | h; exact (hDo q h1).2.1 h; (have h3 := hDlt q h1; omega))) q hq, ((fun (q : Nat) (h1 : D q) (h2 : Fk q) => by rcases hFkr q h2 with h | h; exact (hDo q h1).2.2.1 h; (have h3 := hDlt q h1; omega))) q hq, ((fun (q : Nat) (h1 : D q) (h2 : Gk q) => by rcases hGkr q h2 with h | h; exact (hDo q h1).2.2.2 h; (have h3 := hDlt q h1; omega))) q hq⟩
  have hdo2 : ¬ Hk d ∧ ¬ Fk d ∧ ¬ Gk d := ⟨fun h => (hHko d h).2 rfl, fun h => (hFko d h).2 rfl, fun h => (hGko d h).2 rfl⟩
  refine Kg (hIH x7 (List.mem_of_getElem? hx8) D Hk Fk Gk ui _ (hrep.2.2 x7 (List.mem_of_getElem? hx8)) hd hRk hVk hLk dkHF dkHG dkFG hDo2 hdo2) ?_
  rintro _ w16 ⟨A18, cap18, rfl, hA18, ow18, ⟨F19, F22, F25, ho20, ho23, ho26, hfr21, hfr24, hfr27, hdis28, hdis29, hdis30, dA31, dA32, dA33⟩, hk17⟩
  refine ⟨_, rfl, ?_⟩
  have hsz34 := Keep.size hk17
  replace hA2 := hA2.keep hk17 (fun q hq hs => by rcases hs with hs | hs | hs; exact d2H q hq (by rw [show q = g from hs]; exact (Rfr.atg hRk)); exact d2F q hq hs; exact d2G q hq hs)
  replace hK0 := Keep.fresh hK0 hk17 (fun i hi hs => by rcases hs with hs | hs | hs; (exact .inl hs); (rcases hFkr i hs with h | h; exact .inr <| .inl h; (exfalso; omega)); (rcases hGkr i hs with h | h; exact .inr <| .inr <| h; (exfalso; omega)))
  replace hk3 := Keep.fresh hk3 hk17 (fun i hi hs => by rcases hs with hs | hs | hs; (exact .inl hs); (rcases hFkr i hs with h | h; exact .inr <| .inl h; (exfalso; omega)); (rcases hGkr i hs with h | h; exact .inr <| .inr <| h; (exfalso; omega)))
  have own36 : ∀ q, F19 q → 0 ≤ q ∧ q ≠ d ∧ q ≠ b9 := fun q hq => by rcases hfr21 q hq with h | h; (have h1 := hHko q h; have h2 := hHklt q h; omega); omega
  have lt35 := Rfr.lt ho20
  have rel37 : ∀ q, F19 q → H q ∨ w.heap.size ≤ q := fun q hq => by rcases hfr21 q hq with h | h; exact hHkr q h; exact .inr (by omega)
  have dis38 : ∀ q, F19 q → ¬ inA A2 q := fun q h1 h2 => by rcases hfr21 q h1 with h | h; exact d2H q h2 h; (have h4 := lt2 q h2; omega)
  have own40 : ∀ q, F22 q → 0 ≤ q ∧ q ≠ d ∧ q ≠ b9 := fun q hq => by rcases hfr24 q hq with h | h; (have h1 := hFko q h; have h2 := hFklt q h; omega); omega
  have lt39 := VotT.lt ho23
  have rel41 : ∀ q, F22 q → F q ∨ w.heap.size ≤ q := fun q hq => by rcases hfr24 q hq with h | h; exact hFkr q h; exact .inr (by omega)
  have dis42 : ∀ q, F22 q → ¬ inA A2 q := fun q h1 h2 => by rcases hfr24 q h1 with h | h; exact d2F q h2 h; (have h4 := lt2 q h2; omega)
  have own44 : ∀ q, F25 q → 0 ≤ q ∧ q ≠ d ∧ q ≠ b9 := fun q hq => by rcases hfr27 q hq with h | h; (have h1 := hGko q h; have h2 := hGklt q h; omega); omega
  have lt43 := Led.lt ho26
  have rel45 : ∀ q, F25 q → G q ∨ w.heap.size ≤ q := fun q hq => by rcases hfr27 q hq with h | h; exact hGkr q h; exact .inr (by omega)
  have dis46 : ∀ q, F25 q → ¬ inA A2 q := fun q h1 h2 => by rcases hfr27 q h1 with h | h; exact d2G q h2 h; (have h4 := lt2 q h2; omega)
  have ltA18 := SlT.lt hA18
  refine On 8 [0, 6, 9, 10, 11, 12, 13] <| Oer <| On 2 [0, 10, 11, 12, 13, 23, 24] ?_
  have hl47 : (dk x7 ui).1.length = ((dk x7 ui).1).length := rfl
  have hy47 := SlT.slr hA18
  refine OI_append (t := 27) (at2 := 27) (E := 52) (E2 := 52) (sz := 3) (by_ := 24) (zv := .agg #[nt 0, nt 0, nt 0]) (m := es.length) (k := ((dk x7 ui).1).length) (.tmp 23) (.tmp 24) (.slice A2 es.length cap2) (.slice A18 (((dk x7 ui).1).length) cap18) (some 25) (by kernel_rfl) (by kernel_rfl) (by kernel_rfl) (by kernel_rfl) (by kernel_rfl) (by kernel_rfl) (by kernel_rfl) (SlT.slr hA2) hy47 (fun u hu => by obtain ⟨z, _, hz⟩ := List.mem_flatMap.1 hu; exact Evt.one z u hz) (by first | omega | ((repeat first | rw [List.length_append] | rw [List.length_cons] | rw [List.length_nil] | rw [List.length_take] | rw [List.length_drop]) <;> omega)) (by omega) (by first | omega | ((repeat first | rw [List.length_append] | rw [List.length_cons] | rw [List.length_nil] | rw [List.length_take] | rw [List.length_drop]) <;> omega)) (by omega) ?_
  intro vv9 w47 hap
  obtain ⟨A47, cap47, rfl, hA47, hk47, own47x⟩ := app_many (f := Evt.cells) (xs := es) (ys := ((dk x7 ui).1)) (A := A2) (cap := cap2) hap hl47 Evt.len
  have own47 : ∀ q, inA A47 q → w.heap.size ≤ q := fun q hq => by rcases own47x q hq with h | h; (have h8 := ow2 q h; have h9 := lt2 q h; show w.heap.size ≤ q; omega); (show w.heap.size ≤ q; omega)
  have hsz48 := Keep.size hk47
  replace hK0 := Keep.fresh hK0 hk47 (by intro i hi hs; first | exact hs | (exfalso; have h1 := ow2 i hs; have h2 := lt2 i hs; omega) | (have h1 := ow2 i hs; have h2 := lt2 i hs; show _ ∨ _; omega))
  replace hk3 := Keep.fresh hk3 hk47 (by intro i hi hs; first | exact hs | (exfalso; have h1 := ow2 i hs; have h2 := lt2 i hs; omega) | (have h1 := ow2 i hs; have h2 := lt2 i hs; show _ ∨ _; omega))
  replace ho20 := ho20.keep hk47 (fun q hq hs => dis38 q hq hs)
  replace ho23 := ho23.keep hk47 (fun q hq hs => dis42 q hq hs)
  replace ho26 := ho26.keep hk47 (fun q hq hs => dis46 q hq hs)
  have lt47 := SlT.lt hA47
  have hcap47 := SlT.cap_le hA47
  have dis49 : ∀ q, inA A47 q → ¬ F19 q := fun q h1 h2 => by rcases own47x q h1 with h | h; exact dis38 q h2 h; (have h4 := lt35 q h2; omega)
  have dis50 : ∀ q, inA A47 q → ¬ F22 q := fun q h1 h2 => by rcases own47x q h1 with h | h; exact dis42 q h2 h; (have h4 := lt39 q h2; omega)
  have dis51 : ∀ q, inA A47 q → ¬ F25 q := fun q h1 h2 => by rcases own47x q h1 with h | h; exact dis46 q h2 h; (have h4 := lt43 q h2; omega)
  refine On 4 [0, 6, 10, 11, 12, 13] <| Oer <| Oen [0, 6, 10, 11, 12, 13, 27] <| V_not ((dk x7 ui).2.1 = 0) (by kernel_rfl) (fun hc52 => ?_) (fun hc52 => ?_)
  ·
   refine Vn [4, 5] <| V_ret <| X_ret_block <| X_ret_then <| X_ret_then <| X_ret_block <| X_ret_then ?_
   have hE : batS dk kl [] u = (es ++ (dk x7 ui).1, (dk x7 ui).2.1, (dk x7 ui).2.2) := hbs.symm.trans (batS_no hx8 hc52)
   rw [hE]
   exact Xr (.tuple #[.slice A47 ((es ++ ((dk x7 ui).1)).length) cap47, nt ((dk x7 ui).2.1)]) ⟨A47, cap47, rfl, hA47, own47, ⟨F19, F22, F25, ho20, ho23, ho26, rel37, rel41, rel45, hdis28, hdis29, hdis30, dis49, dis50, dis51⟩, hK0⟩
  refine V_skip <| X_block <| X_then <| V_region ?_
  have hw53 : i64.wrap ((i : Int) + 1) = ((i + 1 : Nat) : Int) := wrp
  refine On 1 [0, 6, 11, 12, 30] <| Oq (u := nt (i64.wrap ((i : Int) + 1))) (v := nt ((i + 1 : Nat) : Int)) 30 (by rw [hw53]) <| Os 2 [(0, pt d),(6, .slice A47 ((es ++ ((dk x7 ui).1)).length) cap47),(11, sl_ b6 o6 kl.length cap),(12, nt (kl.length : Int)),(13, nt ((i + 1 : Nat) : Int))] <| OI_end rfl ?_
  have he0 : (dk x7 ui).2.1 = 0 := hc52
  exact V_again (k2 - 1) (by omega) [(0, pt d),(6, .slice A47 ((es ++ ((dk x7 ui).1)).length) cap47),(11, sl_ b6 o6 kl.length cap),(12, nt (kl.length : Int)),(13, nt ((i + 1 : Nat) : Int))] rfl ⟨i + 1, (dk x7 ui).2.2, F19, F22, F25, A47, cap47, (es ++ ((dk x7 ui).1)), by omega, by rw [← batS_go hx8 he0]; exact hbs, by rw [List.length_append]; omega, ho20, ho23, ho26, rel37, rel41, rel45, hdis28, hdis29, hdis30, hA47, own47, dis49, dis50, dis51, hk3, rfl⟩
 refine V_exit <| X_exit_then <| X_exit_then <| X_exit_here <| X_then <| Vn [4, 5] <| V_ret ?_
 have he : i = kl.length := by omega
 have hE : batS dk kl [] u = (es, 0, ui) := by rw [← hbs, he, List.drop_length]; rfl
 rw [hE]
 exact Xr (.tuple #[.slice A2 es.length cap2, nt 0]) ⟨A2, cap2, rfl, hA2, ow2, ⟨Hk, Fk, Gk, hRk, hVk, hLk, hHkr, hFkr, hGkr, dkHF, dkHG, dkFG, d2H, d2F, d2G⟩, hK0⟩
end Go.Al
