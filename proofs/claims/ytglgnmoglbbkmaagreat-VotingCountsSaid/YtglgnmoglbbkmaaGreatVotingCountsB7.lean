/-
  Put together out of 12 texts: The document's voting: Unlock. The document's voting: Undelegate. The document's voting: New. Walks of the laws of voting: all votes. Walks of the laws of voting: a beginning. The laws of voting: locks; what succeeds. The document's ledger: New. The laws of voting that 
-/
import Derived.Test.YtglgnmoglbbkmaaGreatVotingCountsB6
open Go.IntKind (i64)
set_option maxRecDepth 10000
namespace Go.Al
open Go Go.RowKit Go.Proofs
theorem imax_assoc (a b c : Int) : imax (imax a b) c = imax a (imax b c) := by
  unfold imax; repeat' split
  all_goals omega
theorem mostL_cons (m : Int) (c : Int × Vt) (l : List (Int × Vt)) : mostL m (c :: l) = mostL (imax m (capI c.2)) l := rfl
theorem mostL_max (a : Int) : ∀ (l : List (Int × Vt)) (b : Int), mostL (imax a b) l = imax a (mostL b l)
  | [], _ => rfl
  | c :: l, b => by rw [mostL_cons, mostL_cons, imax_assoc, mostL_max a l]
theorem lock_same {cs : List Ci} {a t m n : Int} (h : m = n ∨ (m ≤ 0 ∧ n ≤ 0)) : lockC cs a t m = lockC cs a t n := by
  rcases h with rfl | ⟨h1, h2⟩
  · rfl
  · unfold lockC
    split
    · rw [if_pos (.inl h1), if_pos (.inl h2)]
    · rfl
theorem unl_same (cs : List Ci) (s : VS) (who t now : Int) : lockC cs who t (mostL (imax (dN (s.rc who t)) (unlR (s.rc who t) now).n) (vrow s who t)) = lockC cs who t (unlN s who t now) := by
  rw [mostL_max]
  refine lock_same ?_
  unfold unlN unlM dN imax
  cases (s.rc who t).d with
  | none =>
    have h9 : ∀ M : Int, (if M > 0 then M else 0) = M ∨ ((if M > 0 then M else 0) ≤ 0 ∧ M ≤ 0) := fun M => by
      split
      · exact .inl rfl
      · exact .inr ⟨Int.le_refl _, by omega⟩
    exact h9 _
  | some d =>
    left
    show (if _ > d.n then _ else d.n) = if d.n > _ then d.n else _
    repeat' split
    all_goals omega
set_option maxHeartbeats 1000000 in
theorem dunlock_spec (F G : Nat → Prop) (y l : Nat) (s : VS) (xs : List Acc) (cs : List Ci) (who t now : Int) (w : World) (h : DVt F w y s) (hl : DLd G w l xs cs) (hdis : ∀ q, F q → ¬ G q) (hmax : cs.length < 90000) : Calls Tryz.prog 78 #[pt y, pt l, nt who, nt t, nt now] w fun e w' => e = .returned (nt (unlE who t)) ∧ (∃ F' G', DVt F' w' y (unlS s who t now) ∧ DLd G' w' l xs (unlC cs s who t now) ∧ (∀ q, F' q → F q ∨ w.heap.size ≤ q) ∧ (∀ q, G' q → G q ∨ w.heap.size ≤ q) ∧ (∀ q, F' q → ¬ G' q)) ∧ Keep (fun q => F q ∨ G q) w w' := by
 obtain ⟨hdi, hFlt, bP, oP, cP, bR, oR, cR, rs, hdv⟩ := h
 obtain ⟨LP, TP, hP⟩ := hdv.pl
 obtain ⟨LR, TR, hR⟩ := hdv.rl
 have hy := hdv.blk
 obtain ⟨hyP, hyR, hPR⟩ := hdv.ne
 have hylt := hy.lt
 have hbPlt := hP.blk.lt
 have hbRlt := hR.blk.lt
 have hpl : s.ps.length = 12 := hdi.inv.len
 have hrl := hdv.rlen
 have hra := hdv.all
 have hF0 : ∀ q, F q → F q ∨ w.heap.size ≤ q := fun _ h => .inl h
 have hGlt := DLd.lt hl
 have hllt := hGlt _ (DLd.at_ hl)
 have hGo : ∀ q, G q → q ≠ y ∧ q ≠ bP ∧ q ≠ bR := fun q hq => ⟨fun e => hdis q (e ▸ hdv.own.1) hq, fun e => hdis q (e ▸ hdv.own.2.1) hq, fun e => hdis q (e ▸ hdv.own.2.2) hq⟩
 have hGr : ∀ q, G q → G q ∨ w.heap.size ≤ q := fun _ h => .inl h
 have hK0 : Keep (fun q => F q ∨ G q) w w := Keep.refl _ _
 refine eV ?_
 refine Vr <| On 1 [0, 1, 2, 3, 4] <| Oe <| V_seq <| Vr <| On 1 [0, 1, 2, 3, 4, 14] <| Kq (is6_spec who _) <| Os 4 [(0, pt y),(1, pt l),(2, nt who),(3, nt t),(4, nt now),(17, .bool (!(isA who)))] ?_
 cases hg4 : (!(isA who))
 ·
  obtain ⟨a5, rfl, hal5⟩ : ∃ j : Nat, who = j ∧ j < 10 := by have h9 : isA who = true := (by simpa using hg4); simp only [isA, decide_eq_true_eq] at h9; exact ⟨who.toNat, by omega, by omega⟩
  refine OI_eq [(0, pt y),(1, pt l),(2, nt (a5 : Int)),(3, nt t),(4, nt now),(17, .bool false)] (by first | rfl | rw [hg4]) <| On 5 [0, 1, 2, 3, 4, 17, 18] <| Kq (dtrack_spec t _) <| Oen [0, 1, 2, 3, 4, 21] <| Vb (!(decide (0 ≤ t ∧ t < 4))) (fun hc9 => ?_) (fun hc9 => ?_)
  ·
   have htkt : ¬ (0 ≤ t ∧ t < 4) := by have h9 := hc9; simp at h9; omega
   refine Vs [(10, nt 1)] <| Rt ?_
   have hE : unlE (a5 : Int) t = 1 := by unfold unlE; rw [if_pos (by omega)]
   exact X_return _ rfl ⟨by rw [hE], ⟨F, G, by rw [show unlS s (a5 : Int) t now = s from by unfold unlS; rw [hE, if_neg (fun h => by cases h.1)]]; exact ⟨hdi, (ltm hFlt), _, _, _, _, _, _, _, ⟨hy, ⟨_, _, hP⟩, ⟨_, _, hR⟩, hdv.ne, hdv.own, hdv.rlen, hra⟩⟩, by rw [show unlC cs s (a5 : Int) t now = cs from by unfold unlC; rw [hE]; rfl]; exact hl, hF0, hGr, hdis⟩, hK0⟩
  have htkt : (0 ≤ t ∧ t < 4) := by have h9 := hc9; simp at h9; omega
  obtain ⟨t0, rfl, htl0⟩ : ∃ j : Nat, t = j ∧ j < 4 := ⟨t.toNat, by omega, by omega⟩
  refine Vsk <| Vr <| On 3 [1, 2, 3, 4, 22, 23, 24] <| Ok (kl 103 #[(.tmp 22),(.tmp 23),(.tmp 24)] #[33, 3, 3]) 103 #[pt y, nt (a5 : Int), nt (t0 : Int)] (some 25) (dat_spec y bR oR cR a5 t0 _ _ hy (by omega) (by omega)) ?_
  rintro _ w ⟨rfl, rfl⟩
  refine ⟨_, rfl, ?_⟩
  refine On 5 [1, 2, 3, 4, 11] <| Oe <| V_seq <| Vr <| On 3 [1, 2, 3, 4, 11, 28] ?_
  obtain ⟨x13, hx14⟩ := exAt (xs := rs) (i := a5 * 4 + t0)
  obtain ⟨A15, c15, rfl, hsk15, hok15⟩ := RAll.get hra hx14
  rw [vrJ_at s a5 t0 (by omega)] at hsk15
  rw [vrJ_at s a5 t0 (by omega), rcJ_at s a5 t0 (by omega)] at hx14
  have hsw15 : ∀ q, inA A15 q → q ≠ y ∧ q ≠ bP ∧ q ≠ bR ∧ q < w.heap.size := fun q hq => ⟨(hok15 q hq).2.1, (hok15 q hq).2.2.1, (hok15 q hq).2.2.2, hFlt q (hok15 q hq).1⟩
  have hsx15 := SlT.lt hsk15
  have hcp15 := SlT.cap_le hsk15
  refine Lc (oR + (a5 * 4 + t0) * 9 + 7) (nt ((s.rc (a5 : Int) (t0 : Int)).till)) hR.blk (At.cell hR (es_at hx14) rfl) <| Oen [1, 2, 3, 11, 31] <| Vi ((s.rc (a5 : Int) (t0 : Int)).till ≤ now) (fun hc16 => ?_) (fun hc16 => ?_)
  ·
   refine V_region <| On 4 [1, 2, 3, 11, 33, 35] <| Ts1 (DR.mk A15 c15 (vrow s (a5 : Int) (t0 : Int)) ((s.rc (a5 : Int) (t0 : Int)).d.isSome) (dTo (s.rc (a5 : Int) (t0 : Int))) (dLv (s.rc (a5 : Int) (t0 : Int))) (dN (s.rc (a5 : Int) (t0 : Int))) ((s.rc (a5 : Int) (t0 : Int)).got.v) ((s.rc (a5 : Int) (t0 : Int)).got.c) 0 ((s.rc (a5 : Int) (t0 : Int)).n) : DR) 7 (nt 0) hR hx14 rfl ?_
   intro w17 hat21 hk19 hz20 hlhx22 hx22
   have hsz23 := Keep.size hk19
   replace hy := hy.k1 hk19
   replace hP := hP.k1 hk19
   replace hsk15 := hsk15.keep hk19 (fun q hq hs => by have hs : q = bR := hs; have g0 := hsw15 q hq; have g1 := hsx15 q hq; omega)
   replace hra := RAll.keep hra hk19 (fun _ _ _ _ h hs => h hs)
   replace hl := DLd.keep hl hk19 (fun q hq hs => by have hs : q = bR := hs; have g0 := hGo q hq; have g1 := hGlt q hq; omega)
   replace hK0 := fro hK0 hk19 (.inl hdv.own.2.2)
   refine On 7 [1, 2, 3, 11, 37] <| Tss1 (DR.mk A15 c15 (vrow s (a5 : Int) (t0 : Int)) ((s.rc (a5 : Int) (t0 : Int)).d.isSome) (dTo (s.rc (a5 : Int) (t0 : Int))) (dLv (s.rc (a5 : Int) (t0 : Int))) (dN (s.rc (a5 : Int) (t0 : Int))) ((s.rc (a5 : Int) (t0 : Int)).got.v) ((s.rc (a5 : Int) (t0 : Int)).got.c) 0 0 : DR) 8 (nt 0) hat21 hx22 rfl ?_
   intro w24 hat28 hk26 hz27 hlhx29 hx29
   have hsz30 := Keep.size hk26
   replace hy := hy.k1 hk26
   replace hP := hP.k1 hk26
   replace hsk15 := hsk15.keep hk26 (fun q hq hs => by have hs : q = bR := hs; have g0 := hsw15 q hq; have g1 := hsx15 q hq; omega)
   replace hra := RAll.keep hra hk26 (fun _ _ _ _ h hs => h hs)
   replace hl := DLd.keep hl hk26 (fun q hq hs => by have hs : q = bR := hs; have g0 := hGo q hq; have g1 := hGlt q hq; omega)
   replace hK0 := fro hK0 hk26 (.inl hdv.own.2.2)
   refine Oe <| V_seq <| Vd1 (acts []) none_ [0, 1, 2, 3, 4, 5, 6, 7, 8, 9] fun w32 hk31 he33 K36 _ => ?_
   replace hat28 := hat28.keep hk31 id
   replace hra := RAll.keep hra hk31 (fun _ _ _ _ _ f => f)
   replace hl := DLd.keep hl hk31 nk
   replace hK0 := hK0.tn hk31
   have qhat28 := hat28
   refine Gn [3, 4, 5, 6, 7, 8, 9] [1, 2, 3, 11, 40] <| Mc0 (oR + (a5 * 4 + t0) * 9 + 4) (nt (dN (s.rc (a5 : Int) (t0 : Int)))) qhat28.blk (At.cell qhat28 (es_at hx29) rfl) <| Gn [7, 8, 9] [1, 2, 3, 11, 41, 44] <| Mc0 (oR + (a5 * 4 + t0) * 9 + 8) (nt 0) qhat28.blk (At.cell qhat28 (es_at hx29) rfl) <| Gn [] [1, 2, 3, 11, 12] <| GI_end <| X_then <| V_seq <| Vn [1, 2, 3, 11, 12, 13] <| V_block <| Vp [(1, pt l),(2, nt (a5 : Int)),(3, nt (t0 : Int)),(11, .pointer (some ⟨bR, oR + (a5 * 4 + t0) * 9, none⟩)),(12, nt (imax (dN (s.rc (a5 : Int) (t0 : Int))) 0)),(13, nt 0)] <| V_loop (fun k wI e => ∃ i : Nat, ∃ m : Int, (k + i = (vrow s (a5 : Int) (t0 : Int)).length) ∧ (m = mostL (imax (dN (s.rc (a5 : Int) (t0 : Int))) 0) ((vrow s (a5 : Int) (t0 : Int)).take i)) ∧ Keep none_ w32 wI ∧ e = [(1, pt l),(2, nt (a5 : Int)),(3, nt (t0 : Int)),(11, .pointer (some ⟨bR, oR + (a5 * 4 + t0) * 9, none⟩)),(12, nt m),(13, nt (i : Int))]) ((vrow s (a5 : Int) (t0 : Int)).length) ⟨0, imax (dN (s.rc (a5 : Int) (t0 : Int))) 0, by omega, rfl, Keep.refl _ _, rfl⟩ ?_
   rintro k38 w37 _ ⟨i, m, hki, hm, hk39, rfl⟩
   have hsz40 := Keep.size hk39
   replace hy := hy.k0 (hk31.tr hk39)
   replace hP := hP.k0 (hk31.tr hk39)
   replace hat28 := hat28.keep hk39 id
   replace hsk15 := hsk15.keep0 (hk31.tr hk39)
   replace hra := RAll.keep hra hk39 (fun _ _ _ _ _ f => f)
   replace hl := DLd.keep hl hk39 nk
   replace hK0 := hK0.tn hk39
   have hzhk39 := Keep.size hk39
   have hvl := Nat.le_trans (vrow_len s (a5 : Int) (t0 : Int)) hdi.len
   refine V_seq <| Vr <| On 4 [1, 2, 3, 11, 12, 13, 47, 50] <| Lc (oR + (a5 * 4 + t0) * 9) (.slice A15 ((vrow s (a5 : Int) (t0 : Int)).length) c15) hat28.blk (At.cell0 hat28 (es_at hx29) rfl) <| Oen [1, 2, 3, 11, 12, 13, 53] <| Vi ((i : Int) < (((vrow s (a5 : Int) (t0 : Int)).length : Nat) : Int)) (fun hc41 => ?_) (fun hc41 => ?_)
   ·
    refine Vsk <| V_seq <| V_block <| V_region <| On 4 [1, 2, 3, 11, 13, 56, 59] <| Lc (oR + (a5 * 4 + t0) * 9) (.slice A15 ((vrow s (a5 : Int) (t0 : Int)).length) c15) hat28.blk (At.cell0 hat28 (es_at hx29) rfl) <| On 6 [1, 2, 3, 11, 13, 56, 60, 61] ?_
    obtain ⟨b42, o42, L42, T42, rfl, hat42⟩ := SlT.opn hsk15
    have hb42lt := hat42.blk.lt
    have hob43 := hsw15 b42 ⟨_, rfl, rfl⟩
    have hob44 := hsx15 b42 ⟨_, rfl, rfl⟩
    have hne45 : ∀ q, G q → q ≠ b42 := fun q hq hs => (fun q h1 h2 => hdis q (hok15 q h2).1 h1) q hq ⟨_, rfl, hs⟩
    have own46 := fun q hq => And.intro (hGo q hq) (hne45 q hq)
    refine Oi (b := b42) (o := o42) (len := (vrow s (a5 : Int) (t0 : Int)).length) (cap := c15) (j := i) (some 62) 39 (.tmp 60) (.tmp 61) 46 7 56 .i64 <| On 8 [1, 2, 3, 11, 13, 56, 63] ?_
    obtain ⟨x47, hx48⟩ := exAt (xs := (vrow s (a5 : Int) (t0 : Int))) (i := i)
    refine La (o42 + i * 7 + 1) (Vt.cells x47.2) 6 hat42.blk (At.sub hat42 (es_at hx48) (by decide) rfl) (Vt.len _) <| Kk (rCapital_spec x47.2 _) fun w49 hk50 _ => ?_
    replace hk39 := hk39.tn hk50
    refine On 12 [1, 2, 3, 11, 12, 13] <| OI_end rfl <| X_block <| X_then <| V_region ?_
    have hw52 : i64.wrap ((i : Int) + 1) = ((i + 1 : Nat) : Int) := wrp
    refine On 2 [1, 2, 3, 11, 12, 55] <| Oq (u := nt (i64.wrap ((i : Int) + 1))) (v := nt ((i + 1 : Nat) : Int)) 55 (by rw [hw52]) <| Os 3 [(1, pt l),(2, nt (a5 : Int)),(3, nt (t0 : Int)),(11, .pointer (some ⟨bR, oR + (a5 * 4 + t0) * 9, none⟩)),(12, nt (imax m (capI x47.2))),(13, nt ((i + 1 : Nat) : Int))] <| OI_end rfl ?_
    exact V_again (k38 - 1) (by omega) [(1, pt l),(2, nt (a5 : Int)),(3, nt (t0 : Int)),(11, .pointer (some ⟨bR, oR + (a5 * 4 + t0) * 9, none⟩)),(12, nt (imax m (capI x47.2))),(13, nt ((i + 1 : Nat) : Int))] rfl ⟨i + 1, imax m (capI x47.2), by omega, by rw [mostL_step hx48, ← hm]; rfl, hk39, rfl⟩
   refine V_exit <| X_exit_then <| X_exit_then <| X_exit_here <| X_then <| Vr <| On 4 [67, 68, 69, 70] <| Kg (lock6_spec G l xs cs (a5 : Int) (t0 : Int) m _ hl hmax) ?_
   rintro _ w55 ⟨rfl, ⟨F57, ho58, hfr59⟩, hk56⟩
   refine ⟨_, rfl, ?_⟩
   have hsz60 := Keep.size hk56
   replace hy := hy.keep hk56 (fun hs => by have h1 := hGo _ hs; have h2 := hGlt _ hs; omega)
   replace hP := hP.keep hk56 (fun hs => by have h1 := hGo _ hs; have h2 := hGlt _ hs; omega)
   replace hat28 := hat28.keep hk56 (fun hs => by have h1 := hGo _ hs; have h2 := hGlt _ hs; omega)
   replace hsk15 := hsk15.keep hk56 (fun q hq hs => (fun q h1 h2 => hdis q (hok15 q h2).1 h1) q hs hq)
   replace hra := RAll.keep hra hk56 (fun q h1 _ _ _ hs => hdis q h1 hs)
   replace hK0 := frR hK0 hk56 hGr
   have own62 : ∀ q, F57 q → q ≠ y ∧ q ≠ bP ∧ q ≠ bR ∧ q ≠ y := fun q hq => by rcases hfr59 q hq with h | h; (have h1 := hGo q h; have h2 := hGlt q h; omega); omega
   have lt61 := DLd.lt ho58
   have rel63 : ∀ q, F57 q → G q ∨ w.heap.size ≤ q := fun q hq => by rcases hfr59 q hq with h | h; exact hGr q h; exact .inr (by omega)
   have dis64 : ∀ q, F57 q → ¬ inA A15 q := fun q h1 h2 => by rcases hfr59 q h1 with h | h; exact (fun q h1 h2 => hdis q (hok15 q h2).1 h1) q h h2; (have h4 := hsx15 q h2; omega)
   refine Oer <| Ose [(10, nt 0)] <| V_ret ?_
   have hE : unlE (a5 : Int) (t0 : Int) = 0 := by unfold unlE; rw [if_neg (by omega)]
   have hie : i = (vrow s (a5 : Int) (t0 : Int)).length := by omega
   rw [hie, List.take_length] at hm
   have hC : unlC cs s (a5 : Int) (t0 : Int) now = lockC cs (a5 : Int) (t0 : Int) m := by unfold unlC; rw [if_pos hE, ← unl_same, hm]; unfold unlR; (rw [if_pos hc16]) <;> rfl
   have hS : unlS s (a5 : Int) (t0 : Int) now = (s.setR (a5 : Int) (t0 : Int) (unlR (s.rc (a5 : Int) (t0 : Int)) now)) := by unfold unlS; rw [if_pos ⟨hE, hc16⟩]
   have hra9 := RAll.set (F' := F) (j := a5 * 4 + t0) (s' := (s.setR (a5 : Int) (t0 : Int) (unlR (s.rc (a5 : Int) (t0 : Int)) now))) hra (fun q h => h) A15 c15 (by rw [vrJ_at _ _ _ (by omega)]; exact hsk15) hok15 (fun i hi _ => ⟨rfl, by show updR _ _ _ _ _ _ = _; unfold updR; rw [if_neg (fun h => rc_other hi ⟨h.1, h.2.symm⟩)]; rfl⟩) (e := (DR.mk A15 c15 (vrow s (a5 : Int) (t0 : Int)) ((s.rc (a5 : Int) (t0 : Int)).d.isSome) (dTo (s.rc (a5 : Int) (t0 : Int))) (dLv (s.rc (a5 : Int) (t0 : Int))) (dN (s.rc (a5 : Int) (t0 : Int))) ((s.rc (a5 : Int) (t0 : Int)).got.v) ((s.rc (a5 : Int) (t0 : Int)).got.c) 0 0)) (by rw [vrJ_at _ _ _ (by omega), rcJ_at _ _ _ (by omega)]; show _ = DR.of _ _ _ (updR _ _ _ _ _ _); unfold updR; rw [if_pos ⟨rfl, rfl⟩]; unfold unlR; rw [if_pos hc16]; rfl)
   exact X_return _ rfl ⟨by rw [hE], ⟨F, F57, by rw [hS]; exact ⟨hdi.setR_ _ _ (by unfold unlR; rw [if_pos hc16]; exact hdi.inv.dels _ _),(ltm hFlt), _, _, _, _, _, _, _, hy, ⟨_, _, hP⟩, ⟨_, _, (by have h9 := hat28; first | exact h9 | ((try rw [List.set_set] at h9); exact h9))⟩, hdv.ne, hdv.own, by rw [List.length_set]; exact hdv.rlen, hra9⟩, by rw [hC]; exact ho58, hF0, rel63, fun q h1 h2 => by rcases hfr59 q h2 with h3 | h3; exact hdis q h1 h3; (have h4 := hFlt q h1; omega)⟩, hK0⟩
  refine Vsk <| V_seq <| Vd1 (acts []) none_ [0, 1, 2, 3, 4, 5, 6, 7, 8, 9] fun w66 hk65 he67 K70 _ => ?_
  replace hR := hR.k0 hk65
  replace hra := RAll.keep hra hk65 (fun _ _ _ _ _ f => f)
  replace hl := DLd.keep hl hk65 nk
  replace hK0 := hK0.tn hk65
  have qhR := hR
  refine Gn [3, 4, 5, 6, 7, 8, 9] [1, 2, 3, 11, 40] <| Mc0 (oR + (a5 * 4 + t0) * 9 + 4) (nt (dN (s.rc (a5 : Int) (t0 : Int)))) qhR.blk (At.cell qhR (es_at hx14) rfl) <| Gn [7, 8, 9] [1, 2, 3, 11, 41, 44] <| Mc0 (oR + (a5 * 4 + t0) * 9 + 8) (nt ((s.rc (a5 : Int) (t0 : Int)).n)) qhR.blk (At.cell qhR (es_at hx14) rfl) <| Gn [] [1, 2, 3, 11, 12] <| GI_end <| X_then <| V_seq <| Vn [1, 2, 3, 11, 12, 13] <| V_block <| Vp [(1, pt l),(2, nt (a5 : Int)),(3, nt (t0 : Int)),(11, .pointer (some ⟨bR, oR + (a5 * 4 + t0) * 9, none⟩)),(12, nt (imax (dN (s.rc (a5 : Int) (t0 : Int))) ((s.rc (a5 : Int) (t0 : Int)).n))),(13, nt 0)] <| V_loop (fun k wI e => ∃ i : Nat, ∃ m : Int, (k + i = (vrow s (a5 : Int) (t0 : Int)).length) ∧ (m = mostL (imax (dN (s.rc (a5 : Int) (t0 : Int))) ((s.rc (a5 : Int) (t0 : Int)).n)) ((vrow s (a5 : Int) (t0 : Int)).take i)) ∧ Keep none_ w66 wI ∧ e = [(1, pt l),(2, nt (a5 : Int)),(3, nt (t0 : Int)),(11, .pointer (some ⟨bR, oR + (a5 * 4 + t0) * 9, none⟩)),(12, nt m),(13, nt (i : Int))]) ((vrow s (a5 : Int) (t0 : Int)).length) ⟨0, imax (dN (s.rc (a5 : Int) (t0 : Int))) ((s.rc (a5 : Int) (t0 : Int)).n), by omega, rfl, Keep.refl _ _, rfl⟩ ?_
  rintro k72 w71 _ ⟨i, m, hki, hm, hk73, rfl⟩
  have hsz74 := Keep.size hk73
  replace hy := hy.k0 (hk65.tr hk73)
  replace hP := hP.k0 (hk65.tr hk73)
  replace hR := hR.k0 hk73
  replace hsk15 := hsk15.keep0 (hk65.tr hk73)
  replace hra := RAll.keep hra hk73 (fun _ _ _ _ _ f => f)
  replace hl := DLd.keep hl hk73 nk
  replace hK0 := hK0.tn hk73
  have hzhk73 := Keep.size hk73
  have hvl := Nat.le_trans (vrow_len s (a5 : Int) (t0 : Int)) hdi.len
  refine V_seq <| Vr <| On 4 [1, 2, 3, 11, 12, 13, 47, 50] <| Lc (oR + (a5 * 4 + t0) * 9) (.slice A15 ((vrow s (a5 : Int) (t0 : Int)).length) c15) hR.blk (At.cell0 hR (es_at hx14) rfl) <| Oen [1, 2, 3, 11, 12, 13, 53] <| Vi ((i : Int) < (((vrow s (a5 : Int) (t0 : Int)).length : Nat) : Int)) (fun hc75 => ?_) (fun hc75 => ?_)
  ·
   refine Vsk <| V_seq <| V_block <| V_region <| On 4 [1, 2, 3, 11, 13, 56, 59] <| Lc (oR + (a5 * 4 + t0) * 9) (.slice A15 ((vrow s (a5 : Int) (t0 : Int)).length) c15) hR.blk (At.cell0 hR (es_at hx14) rfl) <| On 6 [1, 2, 3, 11, 13, 56, 60, 61] ?_
   obtain ⟨b76, o76, L76, T76, rfl, hat76⟩ := SlT.opn hsk15
   have hb76lt := hat76.blk.lt
   have hob77 := hsw15 b76 ⟨_, rfl, rfl⟩
   have hob78 := hsx15 b76 ⟨_, rfl, rfl⟩
   have hne79 : ∀ q, G q → q ≠ b76 := fun q hq hs => (fun q h1 h2 => hdis q (hok15 q h2).1 h1) q hq ⟨_, rfl, hs⟩
   have own80 := fun q hq => And.intro (hGo q hq) (hne79 q hq)
   refine Oi (b := b76) (o := o76) (len := (vrow s (a5 : Int) (t0 : Int)).length) (cap := c15) (j := i) (some 62) 39 (.tmp 60) (.tmp 61) 46 7 56 .i64 <| On 8 [1, 2, 3, 11, 13, 56, 63] ?_
   obtain ⟨x81, hx82⟩ := exAt (xs := (vrow s (a5 : Int) (t0 : Int))) (i := i)
   refine La (o76 + i * 7 + 1) (Vt.cells x81.2) 6 hat76.blk (At.sub hat76 (es_at hx82) (by decide) rfl) (Vt.len _) <| Kk (rCapital_spec x81.2 _) fun w83 hk84 _ => ?_
   replace hk73 := hk73.tn hk84
   refine On 12 [1, 2, 3, 11, 12, 13] <| OI_end rfl <| X_block <| X_then <| V_region ?_
   have hw86 : i64.wrap ((i : Int) + 1) = ((i + 1 : Nat) : Int) := wrp
   refine On 2 [1, 2, 3, 11, 12, 55] <| Oq (u := nt (i64.wrap ((i : Int) + 1))) (v := nt ((i + 1 : Nat) : Int)) 55 (by rw [hw86]) <| Os 3 [(1, pt l),(2, nt (a5 : Int)),(3, nt (t0 : Int)),(11, .pointer (some ⟨bR, oR + (a5 * 4 + t0) * 9, none⟩)),(12, nt (imax m (capI x81.2))),(13, nt ((i + 1 : Nat) : Int))] <| OI_end rfl ?_
   exact V_again (k72 - 1) (by omega) [(1, pt l),(2, nt (a5 : Int)),(3, nt (t0 : Int)),(11, .pointer (some ⟨bR, oR + (a5 * 4 + t0) * 9, none⟩)),(12, nt (imax m (capI x81.2))),(13, nt ((i + 1 : Nat) : Int))] rfl ⟨i + 1, imax m (capI x81.2), by omega, by rw [mostL_step hx82, ← hm]; rfl, hk73, rfl⟩
  refine V_exit <| X_exit_then <| X_exit_then <| X_exit_here <| X_then <| Vr <| On 4 [67, 68, 69, 70] <| Kg (lock6_spec G l xs cs (a5 : Int) (t0 : Int) m _ hl hmax) ?_
  rintro _ w89 ⟨rfl, ⟨F91, ho92, hfr93⟩, hk90⟩
  refine ⟨_, rfl, ?_⟩
  have hsz94 := Keep.size hk90
  replace hy := hy.keep hk90 (fun hs => by have h1 := hGo _ hs; have h2 := hGlt _ hs; omega)
  replace hP := hP.keep hk90 (fun hs => by have h1 := hGo _ hs; have h2 := hGlt _ hs; omega)
  replace hR := hR.keep hk90 (fun hs => by have h1 := hGo _ hs; have h2 := hGlt _ hs; omega)
  replace hra := RAll.keep hra hk90 (fun q h1 _ _ _ hs => hdis q h1 hs)
  replace hK0 := frR hK0 hk90 hGr
  have own96 : ∀ q, F91 q → q ≠ y ∧ q ≠ bP ∧ q ≠ bR ∧ q ≠ y := fun q hq => by rcases hfr93 q hq with h | h; (have h1 := hGo q h; have h2 := hGlt q h; omega); omega
  have lt95 := DLd.lt ho92
  have rel97 : ∀ q, F91 q → G q ∨ w.heap.size ≤ q := fun q hq => by rcases hfr93 q hq with h | h; exact hGr q h; exact .inr (by omega)
  have dis98 : ∀ q, F91 q → ¬ inA A15 q := fun q h1 h2 => by rcases hfr93 q h1 with h | h; exact (fun q h1 h2 => hdis q (hok15 q h2).1 h1) q h h2; (have h4 := hsx15 q h2; omega)
  refine Oer <| Ose [(10, nt 0)] <| V_ret ?_
  have hE : unlE (a5 : Int) (t0 : Int) = 0 := by unfold unlE; rw [if_neg (by omega)]
  have hie : i = (vrow s (a5 : Int) (t0 : Int)).length := by omega
  rw [hie, List.take_length] at hm
  have hC : unlC cs s (a5 : Int) (t0 : Int) now = lockC cs (a5 : Int) (t0 : Int) m := by unfold unlC; rw [if_pos hE, ← unl_same, hm]; unfold unlR; (rw [if_neg hc16]) <;> rfl
  have hS : unlS s (a5 : Int) (t0 : Int) now = s := by unfold unlS; rw [if_neg (fun h => hc16 h.2)]
  exact X_return _ rfl ⟨by rw [hE], ⟨F, F91, by rw [hS]; exact ⟨hdi, (ltm hFlt), _, _, _, _, _, _, _, ⟨hy, ⟨_, _, hP⟩, ⟨_, _, hR⟩, hdv.ne, hdv.own, hdv.rlen, hra⟩⟩, by rw [hC]; exact ho92, hF0, rel97, fun q h1 h2 => by rcases hfr93 q h2 with h3 | h3; exact hdis q h1 h3; (have h4 := hFlt q h1; omega)⟩, hK0⟩
 have hiawho : ¬ (0 ≤ who ∧ who ≤ 9) := by have h9 : isA who = false := (by simpa using hg4); simp [isA] at h9; omega
 refine OI_eq [(0, pt y),(1, pt l),(2, nt who),(3, nt t),(4, nt now),(17, .bool true)] (by first | rfl | rw [hg4]) <| Oen [0, 1, 2, 3, 4, 21] <| Vo <| Vs [(10, nt 1)] <| Rt ?_
 have hE : unlE who t = 1 := by unfold unlE; rw [if_pos (by omega)]
 exact X_return _ rfl ⟨by rw [hE], ⟨F, G, by rw [show unlS s who t now = s from by unfold unlS; rw [hE, if_neg (fun h => by cases h.1)]]; exact ⟨hdi, (ltm hFlt), _, _, _, _, _, _, _, ⟨hy, ⟨_, _, hP⟩, ⟨_, _, hR⟩, hdv.ne, hdv.own, hdv.rlen, hra⟩⟩, by rw [show unlC cs s who t now = cs from by unfold unlC; rw [hE]; rfl]; exact hl, hF0, hGr, hdis⟩, hK0⟩
end Go.Al
namespace Go.Al
open Go Go.RowKit Go.Proofs
def undW (s : VS) (t : Int) (d : DelS) : Wgt := ⟨w64 ((s.rc d.to t).got.v - cvVotes d.n d.level), w64 ((s.rc d.to t).got.c - d.n)⟩
theorem und_inv (s : VS) (who t : Int) (d : DelS) : (undS1 s who t d).ps = (gotS s d.to t (undW s t d)).ps ∧ (undS1 s who t d).cs = s.cs ∧ (∀ r, trk (undS1 s who t d) r = trk s r) ∧ (undS1 s who t d).rc who t = { (gotS s d.to t (undW s t d)).rc who t with d := none } ∧ ∀ x y, ¬ (x = who ∧ y = t) → (undS1 s who t d).rc x y = (gotS s d.to t (undW s t d)).rc x y := by
  have hg : ∀ x y, ((s.setR who t { s.rc who t with d := none }).rc x y).got = (s.rc x y).got := fun x y => by
    show (updR s.rc who t _ x y).got = _
    unfold updR
    split
    · rename_i h; rw [h.1, h.2]
    · rfl
  have hW : gotW ((s.setR who t { s.rc who t with d := none }).rc d.to t).got (Wgt.mk (w64 (0 - cvVotes d.n d.level)) (w64 (0 - d.n))) = undW s t d := by
    rw [hg]; unfold gotW undW; simp only [w64_d]
  have hU : undS1 s who t d = gotS (s.setR who t { s.rc who t with d := none }) d.to t (undW s t d) := by rw [← hW]; rfl
  rw [hU]
  obtain ⟨h1, h2, h3, h4⟩ := got_inv (s.setR who t { s.rc who t with d := none }) d.to t (undW s t d)
  obtain ⟨g1, g2, g3, g4⟩ := got_inv s d.to t (undW s t d)
  refine ⟨?_, h1, h3, ?_, ?_⟩
  · rw [h4, g4, hg]; exact retally_ps _ _ _ rfl
  · rw [h2, g2]
    show updR (updR s.rc who t _) d.to t _ who t = _
    unfold updR
    by_cases h : who = d.to
    · simp [VS.setR, updR, h]
    · simp [h]
  · intro x y hxy
    rw [h2, g2]
    show updR (updR s.rc who t _) d.to t _ x y = updR s.rc d.to t _ x y
    unfold updR
    by_cases h : x = d.to ∧ y = t
    · rw [if_pos h, if_pos h]
      have hn : ¬ (d.to = who) := fun e => hxy ⟨h.1.trans e, h.2⟩
      simp [VS.setR, updR, hn]
    · rw [if_neg h, if_neg h, if_neg hxy]
theorem DInv.und1 {s : VS} (h : DInv s) (who t : Int) (d : DelS) : DInv (undS1 s who t d) := (h.setR_ who t (r := { s.rc who t with d := none }) (by intro d hd; cases hd)).got_ d.to t (gotW ((s.setR who t { s.rc who t with d := none }).rc d.to t).got (Wgt.mk (w64 (0 - cvVotes d.n d.level)) (w64 (0 - d.n))))
set_option maxHeartbeats 1000000 in
theorem dundelegate_spec (F : Nat → Prop) (y : Nat) (s : VS) (who t now : Int) (w : World) (h : DVt F w y s) : Calls Tryz.prog 77 #[pt y, nt who, nt t, nt now] w fun e w' => e = .returned (nt (undE s who t)) ∧ (∃ F', DVt F' w' y (undS s who t now) ∧ (∀ q, F' q → F q ∨ w.heap.size ≤ q)) ∧ Keep F w w' := by
 obtain ⟨hdi, hFlt, bP, oP, cP, bR, oR, cR, rs, hdv⟩ := h
 obtain ⟨LP, TP, hP⟩ := hdv.pl
 obtain ⟨LR, TR, hR⟩ := hdv.rl
 have hy := hdv.blk
 obtain ⟨hyP, hyR, hPR⟩ := hdv.ne
 have hylt := hy.lt
 have hbPlt := hP.blk.lt
 have hbRlt := hR.blk.lt
 have hpl : s.ps.length = 12 := hdi.inv.len
 have hrl := hdv.rlen
 have hra := hdv.all
 have hF0 : ∀ q, F q → F q ∨ w.heap.size ≤ q := fun _ h => .inl h
 have hK0 := Keep.refl F w
 refine eV ?_
 refine Vr <| On 1 [0, 1, 2, 3] <| Oe <| V_seq <| Vr <| On 1 [0, 1, 2, 3, 12] <| Kq (is6_spec who _) <| Os 4 [(0, pt y),(1, nt who),(2, nt t),(3, nt now),(15, .bool (!(isA who)))] ?_
 cases hg4 : (!(isA who))
 ·
  obtain ⟨a5, rfl, hal5⟩ : ∃ j : Nat, who = j ∧ j < 10 := by have h9 : isA who = true := (by simpa using hg4); simp only [isA, decide_eq_true_eq] at h9; exact ⟨who.toNat, by omega, by omega⟩
  refine OI_eq [(0, pt y),(1, nt (a5 : Int)),(2, nt t),(3, nt now),(15, .bool false)] (by first | rfl | rw [hg4]) <| On 5 [0, 1, 2, 3, 15, 16] <| Kq (dtrack_spec t _) <| Oen [0, 1, 2, 3, 19] <| Vb (!(decide (0 ≤ t ∧ t < 4))) (fun hc9 => ?_) (fun hc9 => ?_)
  ·
   have htkt : ¬ (0 ≤ t ∧ t < 4) := by have h9 := hc9; simp at h9; omega
   refine Vs [(8, nt 1)] <| Rt ?_
   have hE : undE s (a5 : Int) t = 1 := by unfold undE; rw [if_pos (by omega)]
   exact X_return _ rfl ⟨by rw [hE], ⟨F, by rw [show undS s (a5 : Int) t now = s from by unfold undS; rw [hE]; rfl]; exact ⟨hdi, (ltm hFlt), _, _, _, _, _, _, _, ⟨hy, ⟨_, _, hP⟩, ⟨_, _, hR⟩, hdv.ne, hdv.own, hdv.rlen, hra⟩⟩, hF0⟩, hK0⟩
  have htkt : (0 ≤ t ∧ t < 4) := by have h9 := hc9; simp at h9; omega
  obtain ⟨t0, rfl, htl0⟩ : ∃ j : Nat, t = j ∧ j < 4 := ⟨t.toNat, by omega, by omega⟩
  refine Vsk <| Vr <| On 3 [0, 2, 3, 20, 21, 22] <| Ok (kl 103 #[(.tmp 20),(.tmp 21),(.tmp 22)] #[33, 3, 3]) 103 #[pt y, nt (a5 : Int), nt (t0 : Int)] (some 23) (dat_spec y bR oR cR a5 t0 _ _ hy (by omega) (by omega)) ?_
  rintro _ w ⟨rfl, rfl⟩
  refine ⟨_, rfl, ?_⟩
  refine On 5 [0, 2, 3, 9] <| Oe <| V_seq <| Vr <| On 3 [0, 2, 3, 9, 26] ?_
  obtain ⟨x13, hx14⟩ := exAt (xs := rs) (i := a5 * 4 + t0)
  obtain ⟨A15, c15, rfl, hsk15, hok15⟩ := RAll.get hra hx14
  rw [vrJ_at s a5 t0 (by omega)] at hsk15
  rw [vrJ_at s a5 t0 (by omega), rcJ_at s a5 t0 (by omega)] at hx14
  have hsw15 : ∀ q, inA A15 q → q ≠ y ∧ q ≠ bP ∧ q ≠ bR ∧ q < w.heap.size := fun q hq => ⟨(hok15 q hq).2.1, (hok15 q hq).2.2.1, (hok15 q hq).2.2.2, hFlt q (hok15 q hq).1⟩
  have hsx15 := SlT.lt hsk15
  have hcp15 := SlT.cap_le hsk15
  refine Lc (oR + (a5 * 4 + t0) * 9 + 1) (.bool ((s.rc (a5 : Int) (t0 : Int)).d.isSome)) hR.blk (At.cell hR (es_at hx14) rfl) <| Oen [0, 2, 3, 9, 28] <| Vb (!((s.rc (a5 : Int) (t0 : Int)).d.isSome)) (fun hc16 => ?_) (fun hc16 => ?_)
  ·
   refine Vs [(8, nt 4)] <| Rt ?_
   have hE : undE s (a5 : Int) (t0 : Int) = 4 := by unfold undE; rw [if_neg (by omega)]; rw [if_neg (by simpa using hc16)]
   exact X_return _ rfl ⟨by rw [hE], ⟨F, by rw [show undS s (a5 : Int) (t0 : Int) now = s from by unfold undS; rw [hE]; rfl]; exact ⟨hdi, (ltm hFlt), _, _, _, _, _, _, _, ⟨hy, ⟨_, _, hP⟩, ⟨_, _, hR⟩, hdv.ne, hdv.own, hdv.rlen, hra⟩⟩, hF0⟩, hK0⟩
  obtain ⟨⟨dto, dlv, dnn⟩, hd0⟩ := Option.isSome_iff_exists.1 (show (s.rc (a5 : Int) (t0 : Int)).d.isSome = true by simpa using hc16)
  obtain ⟨hdk1, hdk2, hdk3⟩ := hdi.inv.dels _ _ _ hd0
  replace hdk1 : 0 ≤ dto ∧ dto < 10 := hdk1
  replace hdk2 : 0 ≤ dlv ∧ dlv ≤ 6 := hdk2
  obtain ⟨d2, rfl, hdl2⟩ : ∃ j : Nat, dto = j ∧ j < 10 := ⟨dto.toNat, by omega, by omega⟩
  have hx17 : rs[a5 * 4 + t0]? = some (DR.mk A15 c15 (vrow s (a5 : Int) (t0 : Int)) true (d2 : Int) dlv dnn (s.rc (a5 : Int) (t0 : Int)).got.v (s.rc (a5 : Int) (t0 : Int)).got.c (s.rc (a5 : Int) (t0 : Int)).till (s.rc (a5 : Int) (t0 : Int)).n) := by rw [hx14]; unfold DR.of dTo dLv dN; rw [hd0]; rfl
  refine Vsk <| Vr <| On 4 [0, 2, 3, 9, 29, 32] <| Lc (oR + (a5 * 4 + t0) * 9 + 2) (nt (d2 : Int)) hR.blk (At.cell hR (es_at hx17) rfl) <| On 6 [0, 2, 3, 9, 29, 33, 34] <| Ok (kl 103 #[(.tmp 29),(.tmp 33),(.tmp 34)] #[33, 3, 3]) 103 #[pt y, nt (d2 : Int), nt (t0 : Int)] (some 35) (dat_spec y bR oR cR d2 t0 _ _ hy (by omega) (by omega)) ?_
  rintro _ w ⟨rfl, rfl⟩
  refine ⟨_, rfl, ?_⟩
  refine On 9 [0, 2, 3, 9, 37] ?_
  obtain ⟨x21, hx22⟩ := exAt (xs := rs) (i := d2 * 4 + t0)
  obtain ⟨A23, c23, rfl, hsk23, hok23⟩ := RAll.get hra hx22
  rw [vrJ_at s d2 t0 (by omega)] at hsk23
  rw [vrJ_at s d2 t0 (by omega), rcJ_at s d2 t0 (by omega)] at hx22
  have hsw23 : ∀ q, inA A23 q → q ≠ y ∧ q ≠ bP ∧ q ≠ bR ∧ q < w.heap.size := fun q hq => ⟨(hok23 q hq).2.1, (hok23 q hq).2.2.1, (hok23 q hq).2.2.2, hFlt q (hok23 q hq).1⟩
  have hsx23 := SlT.lt hsk23
  have hcp23 := SlT.cap_le hsk23
  refine La (oR + (d2 * 4 + t0) * 9 + 5) (Wgt.cells ((s.rc (d2 : Int) (t0 : Int)).got)) 2 hR.blk (At.sub hR (es_at hx22) (by decide) rfl) (Wgt.len _) <| Alc_ 54 (.agg #[nt 0, nt 0]) [nt 0, nt 0] ?_
  intro b24 w24 e24 hb24 k24 z24
  have hsz25 := Keep.size k24
  replace hy := hy.k0 k24
  replace hP := hP.k0 k24
  replace hR := hR.k0 k24
  replace hra := RAll.keep hra k24 (fun _ _ _ _ _ f => f)
  replace hK0 := hK0.tn k24
  have hb24lt := hb24.lt
  refine Sg 0 (Wgt.cells ((s.rc (d2 : Int) (t0 : Int)).got)) hb24 (Wgt.len _) (Wgt.one _) ?_
  intro w26 hb24_29 hk27 hz28
  replace hb24_29 : Blk w26 b24 (Wgt.cells ((s.rc (d2 : Int) (t0 : Int)).got)) 54 := (by rwa [over_whole (by rw [Wgt.len]; rfl)] at hb24_29)
  have hsz30 := Keep.size hk27
  replace hy := hy.k1 hk27
  replace hP := hP.k1 hk27
  replace hR := hR.k1 hk27
  replace hra := RAll.keep hra hk27 (fun q h1 h2 h3 h4 hs => by have hs : q = b24 := hs; first | exact h2 hs | exact h3 hs | exact h4 hs | (have h5 := hFlt q h1; omega))
  replace hK0 := frn hK0 hk27
  refine Oe <| V_seq <| Vd1 (acts [16, 26]) none_ [8, 9, 10, 11, 12, 13, 14, 15, 16, 0, 1, 2, 3, 4, 5, 6, 7, 17, 18, 19, 20, 21, 22, 23, 24, 25, 26] fun w32 hk31 he33 K36 _ => ?_
  replace hy := hy.k0 hk31
  replace hb24_29 := hb24_29.k0 hk31
  replace hP := hP.k0 hk31
  replace hR := hR.k0 hk31
  replace hra := RAll.keep hra hk31 (fun _ _ _ _ _ f => f)
  replace hK0 := hK0.tn hk31
  have qhb24_29 := hb24_29
  have qhR := hR
  refine Gn [11, 12, 13, 14, 15, 16, 0, 1, 2, 3, 4, 5, 6, 7, 17, 18, 19, 20, 21, 22, 23, 24, 25, 26] [0, 2, 3, 9, 10, 49] <| Mc0 (oR + (a5 * 4 + t0) * 9 + 4) (nt dnn) qhR.blk (At.cell qhR (es_at hx17) rfl) <| Gn [15, 16, 0, 1, 2, 3, 4, 5, 6, 7, 17, 18, 19, 20, 21, 22, 23, 24, 25, 26] [0, 2, 3, 9, 10, 50, 53] <| Mc0 (oR + (a5 * 4 + t0) * 9 + 3) (nt dlv) qhR.blk (At.cell qhR (es_at hx17) rfl) <| Hq K36 (rVotes_spec dnn dlv _) <| Gn [4, 5, 6, 7, 17, 18, 19, 20, 21, 22, 23, 24, 25, 26] [2, 3, 9, 10, 39, 42, 55] <| Mc0 (oR + (a5 * 4 + t0) * 9 + 2) (nt (d2 : Int)) qhR.blk (At.cell qhR (es_at hx17) rfl) <| Gn [7, 17, 18, 19, 20, 21, 22, 23, 24, 25, 26] [3, 9, 10, 39, 43, 44, 45, 55] <| Mr 0 (nt (((s.rc (d2 : Int) (t0 : Int)).got).v)) qhb24_29 <| Gn [19, 20, 21, 22, 23, 24, 25, 26] [3, 9, 39, 43, 44, 56, 57] <| Mr 1 (nt (((s.rc (d2 : Int) (t0 : Int)).got).c)) qhb24_29 <| Gn [23, 24, 25, 26] [3, 9, 39, 43, 44, 56, 58, 61] <| Mc0 (oR + (a5 * 4 + t0) * 9 + 4) (nt dnn) qhR.blk (At.cell qhR (es_at hx17) rfl) <| Gn [26] [3, 9, 39, 43, 44, 64] <| GI_final 26 (by kernel_rfl) (by kernel_rfl) ?_
  have hFl2 : ∀ q, F q → q < w32.heap.size := ltm hFlt
  have hdx2 : DvX F w32 y bP oP cP bR oR cR _ s := ⟨hy, ⟨_, _, hP⟩, ⟨_, _, hR⟩, hdv.ne, hdv.own, hdv.rlen, hra⟩
  refine Ok (kl 109 #[(.tmp 39),(.tmp 43),(.tmp 44),(.tmp 64)] #[33, 3, 3, 54]) 109 #[pt y, nt (d2 : Int), nt (t0 : Int), .agg #[nt (i64.wrap ((((s.rc (d2 : Int) (t0 : Int)).got).v) - (cvVotes dnn dlv))), nt (i64.wrap ((((s.rc (d2 : Int) (t0 : Int)).got).c) - dnn))]] (some 65) (dgot_at F y s bP oP cP bR oR cR _ d2 t0 (Wgt.mk (i64.wrap ((((s.rc (d2 : Int) (t0 : Int)).got).v) - (cvVotes dnn dlv))) (i64.wrap ((((s.rc (d2 : Int) (t0 : Int)).got).c) - dnn))) _ hdi hFl2 hdx2 (by omega) (by omega)) ?_
  rintro _ w38 ⟨rfl, ⟨rs2, hdv2⟩, hk39⟩
  refine ⟨_, rfl, ?_⟩
  have hsz40 := Keep.size hk39
  replace hK0 := Keep.fresh hK0 hk39 (fun i hi hs => hs)
  obtain ⟨s9, hs9, hdv2⟩ : ∃ s', s' = (gotS s (d2 : Int) (t0 : Int) (Wgt.mk (i64.wrap ((((s.rc (d2 : Int) (t0 : Int)).got).v) - (cvVotes dnn dlv))) (i64.wrap ((((s.rc (d2 : Int) (t0 : Int)).got).c) - dnn)))) ∧ DvX F w38 y bP oP cP bR oR cR rs2 s' := ⟨_, rfl, hdv2⟩
  obtain ⟨LP2, TP2, hP2⟩ := hdv2.pl
  obtain ⟨LR2, TR2, hR2⟩ := hdv2.rl
  have hy2 := hdv2.blk
  have hra2 := hdv2.all
  have hrl2 := hdv2.rlen
  obtain ⟨hgr1, hgr2, hgr3, _⟩ := got_inv s (d2 : Int) (t0 : Int) (Wgt.mk (i64.wrap ((((s.rc (d2 : Int) (t0 : Int)).got).v) - (cvVotes dnn dlv))) (i64.wrap ((((s.rc (d2 : Int) (t0 : Int)).got).c) - dnn)))
  rw [← hs9] at hgr1 hgr2
  have hvr2 : ∀ b c, vrow s9 b c = vrow s b c := fun b c => by rw [hs9] at hgr1 ⊢; exact vrow_congr hgr1 hgr3 b c
  have hd2 : (s9.rc (a5 : Int) (t0 : Int)).d = some ⟨(d2 : Int), dlv, dnn⟩ := by rw [hgr2]; unfold updR; split; (rename_i h9; have h8 := hd0; rw [h9.1] at h8; exact h8); exact hd0
  obtain ⟨x41, hx42⟩ := exAt (xs := rs2) (i := a5 * 4 + t0)
  obtain ⟨A43, c43, rfl, hsk43, hok43⟩ := RAll.get hra2 hx42
  rw [vrJ_at s9 a5 t0 (by omega)] at hsk43
  rw [vrJ_at s9 a5 t0 (by omega), rcJ_at s9 a5 t0 (by omega)] at hx42
  have hsw43 : ∀ q, inA A43 q → q ≠ y ∧ q ≠ bP ∧ q ≠ bR ∧ q < w.heap.size := fun q hq => ⟨(hok43 q hq).2.1, (hok43 q hq).2.2.1, (hok43 q hq).2.2.2, hFlt q (hok43 q hq).1⟩
  have hsx43 := SlT.lt hsk43
  have hcp43 := SlT.cap_le hsk43
  have hx44 : rs2[a5 * 4 + t0]? = some (DR.mk A43 c43 (vrow s9 (a5 : Int) (t0 : Int)) true (d2 : Int) dlv dnn (s9.rc (a5 : Int) (t0 : Int)).got.v (s9.rc (a5 : Int) (t0 : Int)).got.c (s9.rc (a5 : Int) (t0 : Int)).till (s9.rc (a5 : Int) (t0 : Int)).n) := by rw [hx42]; unfold DR.of dTo dLv dN; rw [hd2]; rfl
  refine Oer <| On 4 [3, 9, 66, 69] <| Lc (oR + (a5 * 4 + t0) * 9 + 3) (nt dlv) hR2.blk (At.cell hR2 (es_at hx44) rfl) <| Kq (rPeriod_spec dlv 8 _ hdk2) <| On 8 [3, 9, 11] <| Oe <| V_seq <| Vn [9, 11, 75] <| Vi (i64.wrap (now + (cvPeriod dlv 8)) > now) (fun hc48 => ?_) (fun hc48 => ?_)
  ·
   refine V_region <| On 5 [9, 76, 77, 80] <| Lc (oR + (a5 * 4 + t0) * 9 + 4) (nt dnn) hR2.blk (At.cell hR2 (es_at hx44) rfl) <| Ok (kl 108 #[(.tmp 76),(.tmp 77),(.tmp 81)] #[163, 3, 3]) 108 #[.pointer (some ⟨bR, oR + (a5 * 4 + t0) * 9, none⟩), nt (i64.wrap (now + (cvPeriod dlv 8))), nt dnn] (some 82) (djoin_spec bR oR cR (a5 * 4 + t0) _ _ rs2 (DR.mk A43 c43 (vrow s9 (a5 : Int) (t0 : Int)) true (d2 : Int) dlv dnn (s9.rc (a5 : Int) (t0 : Int)).got.v (s9.rc (a5 : Int) (t0 : Int)).got.c (s9.rc (a5 : Int) (t0 : Int)).till (s9.rc (a5 : Int) (t0 : Int)).n) (i64.wrap (now + (cvPeriod dlv 8))) dnn _ hR2 hx44) ?_
   rintro _ w49 ⟨rfl, ⟨_, hj51⟩, hk50⟩
   refine ⟨_, rfl, ?_⟩
   have hsz52 := Keep.size hk50
   replace hy2 := hy2.k1 hk50
   replace hP2 := hP2.k1 hk50
   replace hsk43 := hsk43.keep hk50 (fun q hq hs => by have hs : q = bR := hs; have g0 := hsw43 q hq; have g1 := hsx43 q hq; omega)
   replace hK0 := fro hK0 hk50 hdv.own.2.2
   replace hra2 := RAll.keep hra2 hk50 (fun _ _ _ _ h hs => h hs)
   replace hj51 := (show At _ bR oR _ _ 9 cR ((rs2.set (a5 * 4 + t0) (DR.mk A43 c43 (vrow s9 (a5 : Int) (t0 : Int)) true (d2 : Int) dlv dnn ((s9.rc (a5 : Int) (t0 : Int)).got.v) ((s9.rc (a5 : Int) (t0 : Int)).got.c) (imax ((s9.rc (a5 : Int) (t0 : Int)).till) (i64.wrap (now + (cvPeriod dlv 8)))) (imax ((s9.rc (a5 : Int) (t0 : Int)).n) dnn))).map DR.cells) from hj51)
   have hjx51 : (rs2.set (a5 * 4 + t0) (DR.mk A43 c43 (vrow s9 (a5 : Int) (t0 : Int)) true (d2 : Int) dlv dnn ((s9.rc (a5 : Int) (t0 : Int)).got.v) ((s9.rc (a5 : Int) (t0 : Int)).got.c) (imax ((s9.rc (a5 : Int) (t0 : Int)).till) (i64.wrap (now + (cvPeriod dlv 8)))) (imax ((s9.rc (a5 : Int) (t0 : Int)).n) dnn)))[a5 * 4 + t0]? = some (DR.mk A43 c43 (vrow s9 (a5 : Int) (t0 : Int)) true (d2 : Int) dlv dnn ((s9.rc (a5 : Int) (t0 : Int)).got.v) ((s9.rc (a5 : Int) (t0 : Int)).got.c) (imax ((s9.rc (a5 : Int) (t0 : Int)).till) (i64.wrap (now + (cvPeriod dlv 8)))) (imax ((s9.rc (a5 : Int) (t0 : Int)).n) dnn)) := by rw [List.getElem?_set_self (List.getElem?_eq_some_iff.1 hx44).1]
   have hjl51 : (rs2.set (a5 * 4 + t0) (DR.mk A43 c43 (vrow s9 (a5 : Int) (t0 : Int)) true (d2 : Int) dlv dnn ((s9.rc (a5 : Int) (t0 : Int)).got.v) ((s9.rc (a5 : Int) (t0 : Int)).got.c) (imax ((s9.rc (a5 : Int) (t0 : Int)).till) (i64.wrap (now + (cvPeriod dlv 8)))) (imax ((s9.rc (a5 : Int) (t0 : Int)).n) dnn))).length = (rs2).length := List.length_set
   refine Oer <| On 6 [84, 85, 86, 88] <| Tss1 (DR.mk A43 c43 (vrow s9 (a5 : Int) (t0 : Int)) false (d2 : Int) dlv dnn ((s9.rc (a5 : Int) (t0 : Int)).got.v) ((s9.rc (a5 : Int) (t0 : Int)).got.c) (imax ((s9.rc (a5 : Int) (t0 : Int)).till) (i64.wrap (now + (cvPeriod dlv 8)))) (imax ((s9.rc (a5 : Int) (t0 : Int)).n) dnn) : DR) 1 (.bool false) hj51 hjx51 rfl ?_
   intro w53 hat57 hk55 hz56 hlhx58 hx58
   have hsz59 := Keep.size hk55
   replace hy2 := hy2.k1 hk55
   replace hP2 := hP2.k1 hk55
   replace hsk43 := hsk43.keep hk55 (fun q hq hs => by have hs : q = bR := hs; have g0 := hsw43 q hq; have g1 := hsx43 q hq; omega)
   replace hK0 := fro hK0 hk55 hdv.own.2.2
   replace hra2 := RAll.keep hra2 hk55 (fun _ _ _ _ h hs => h hs)
   refine On 9 [85, 86, 90] <| Tss1 (DR.mk A43 c43 (vrow s9 (a5 : Int) (t0 : Int)) false 0 dlv dnn ((s9.rc (a5 : Int) (t0 : Int)).got.v) ((s9.rc (a5 : Int) (t0 : Int)).got.c) (imax ((s9.rc (a5 : Int) (t0 : Int)).till) (i64.wrap (now + (cvPeriod dlv 8)))) (imax ((s9.rc (a5 : Int) (t0 : Int)).n) dnn) : DR) 2 (nt 0) hat57 hx58 rfl ?_
   intro w60 hat64 hk62 hz63 hlhx65 hx65
   have hsz66 := Keep.size hk62
   replace hy2 := hy2.k1 hk62
   replace hP2 := hP2.k1 hk62
   replace hsk43 := hsk43.keep hk62 (fun q hq hs => by have hs : q = bR := hs; have g0 := hsw43 q hq; have g1 := hsx43 q hq; omega)
   replace hK0 := fro hK0 hk62 hdv.own.2.2
   replace hra2 := RAll.keep hra2 hk62 (fun _ _ _ _ h hs => h hs)
   refine On 12 [86, 92] <| Tss1 (DR.mk A43 c43 (vrow s9 (a5 : Int) (t0 : Int)) false 0 0 dnn ((s9.rc (a5 : Int) (t0 : Int)).got.v) ((s9.rc (a5 : Int) (t0 : Int)).got.c) (imax ((s9.rc (a5 : Int) (t0 : Int)).till) (i64.wrap (now + (cvPeriod dlv 8)))) (imax ((s9.rc (a5 : Int) (t0 : Int)).n) dnn) : DR) 3 (nt 0) hat64 hx65 rfl ?_
   intro w67 hat71 hk69 hz70 hlhx72 hx72
   have hsz73 := Keep.size hk69
   replace hy2 := hy2.k1 hk69
   replace hP2 := hP2.k1 hk69
   replace hsk43 := hsk43.keep hk69 (fun q hq hs => by have hs : q = bR := hs; have g0 := hsw43 q hq; have g1 := hsx43 q hq; omega)
   replace hK0 := fro hK0 hk69 hdv.own.2.2
   replace hra2 := RAll.keep hra2 hk69 (fun _ _ _ _ h hs => h hs)
   refine On 15 [94] <| Tss1 (DR.mk A43 c43 (vrow s9 (a5 : Int) (t0 : Int)) false 0 0 0 ((s9.rc (a5 : Int) (t0 : Int)).got.v) ((s9.rc (a5 : Int) (t0 : Int)).got.c) (imax ((s9.rc (a5 : Int) (t0 : Int)).till) (i64.wrap (now + (cvPeriod dlv 8)))) (imax ((s9.rc (a5 : Int) (t0 : Int)).n) dnn) : DR) 4 (nt 0) hat71 hx72 rfl ?_
   intro w74 hat78 hk76 hz77 hlhx79 hx79
   have hsz80 := Keep.size hk76
   replace hy2 := hy2.k1 hk76
   replace hP2 := hP2.k1 hk76
   replace hsk43 := hsk43.keep hk76 (fun q hq hs => by have hs : q = bR := hs; have g0 := hsw43 q hq; have g1 := hsx43 q hq; omega)
   replace hK0 := fro hK0 hk76 hdv.own.2.2
   replace hra2 := RAll.keep hra2 hk76 (fun _ _ _ _ h hs => h hs)
   refine Oer <| Ose [(8, nt 0)] <| V_ret ?_
   have hE : undE s (a5 : Int) (t0 : Int) = 0 := by unfold undE; rw [if_neg (by omega)]; rw [if_pos (by rw [hd0]; rfl)]
   have hS : undS s (a5 : Int) (t0 : Int) now = ((undS1 s (a5 : Int) (t0 : Int) (DelS.mk (d2 : Int) dlv dnn)).setR (a5 : Int) (t0 : Int) (joinR ((undS1 s (a5 : Int) (t0 : Int) (DelS.mk (d2 : Int) dlv dnn)).rc (a5 : Int) (t0 : Int)) (w64 (now + cvPeriod dlv 8)) dnn now)) := by unfold undS; rw [if_pos hE, hd0]
   obtain ⟨hu1, hu2, hu3, hu4, hu5⟩ := und_inv s (a5 : Int) (t0 : Int) (DelS.mk (d2 : Int) dlv dnn)
   have hs8 : s9 = gotS s (DelS.mk (d2 : Int) dlv dnn).to (t0 : Int) (undW s (t0 : Int) (DelS.mk (d2 : Int) dlv dnn)) := hs9
   rw [← hs8] at hu1 hu4 hu5
   have hvr : ∀ b c, vrow ((undS1 s (a5 : Int) (t0 : Int) (DelS.mk (d2 : Int) dlv dnn)).setR (a5 : Int) (t0 : Int) (joinR ((undS1 s (a5 : Int) (t0 : Int) (DelS.mk (d2 : Int) dlv dnn)).rc (a5 : Int) (t0 : Int)) (w64 (now + cvPeriod dlv 8)) dnn now)) b c = vrow s b c := fun b c => vrow_congr hu2 hu3 b c
   have hra9 := RAll.set (F' := F) (j := a5 * 4 + t0) (s' := ((undS1 s (a5 : Int) (t0 : Int) (DelS.mk (d2 : Int) dlv dnn)).setR (a5 : Int) (t0 : Int) (joinR ((undS1 s (a5 : Int) (t0 : Int) (DelS.mk (d2 : Int) dlv dnn)).rc (a5 : Int) (t0 : Int)) (w64 (now + cvPeriod dlv 8)) dnn now))) hra2 (fun q h => h) A43 c43 (by rw [vrJ_at _ _ _ (by omega), hvr, ← hvr2]; exact hsk43) hok43 (fun i hi _ => ⟨(hvr _ _).trans (hvr2 _ _).symm, by show updR _ _ _ _ _ _ = _; unfold updR; rw [if_neg (fun h => rc_other hi ⟨h.1, h.2.symm⟩)]; exact hu5 _ _ (fun h => rc_other hi ⟨h.1, h.2.symm⟩)⟩) (e := (DR.mk A43 c43 (vrow s9 (a5 : Int) (t0 : Int)) false 0 0 0 ((s9.rc (a5 : Int) (t0 : Int)).got.v) ((s9.rc (a5 : Int) (t0 : Int)).got.c) (imax ((s9.rc (a5 : Int) (t0 : Int)).till) (i64.wrap (now + (cvPeriod dlv 8)))) (imax ((s9.rc (a5 : Int) (t0 : Int)).n) dnn))) (by rw [vrJ_at _ _ _ (by omega), rcJ_at _ _ _ (by omega), hvr, ← hvr2]; show _ = DR.of _ _ _ (updR _ _ _ _ _ _); unfold updR; rw [if_pos ⟨rfl, rfl⟩, hu4]; unfold joinR; rw [if_pos hc48]; rfl)
   exact X_return _ rfl ⟨by rw [hE], ⟨F, by rw [hS]; exact ⟨(hdi.und1 (a5 : Int) (t0 : Int) (DelS.mk (d2 : Int) dlv dnn)).setR_ _ _ (by intro d hd; rw [joinR_d] at hd; exact (hdi.und1 (a5 : Int) (t0 : Int) (DelS.mk (d2 : Int) dlv dnn)).inv.dels _ _ d hd),(ltm hFlt), _, _, _, _, _, _, _, hy2, ⟨_, _, by show At _ _ _ _ _ _ _ ((undS1 s (a5 : Int) (t0 : Int) (DelS.mk (d2 : Int) dlv dnn)).ps.map dpc); rw [hu1]; exact hP2⟩, ⟨_, _, (by have h9 := hat78; (try simp only [List.set_set] at h9); exact h9)⟩, hdv.ne, hdv.own, by rw [List.length_set]; exact hrl2, hra9⟩, hF0⟩, hK0⟩
  refine Vsk <| Vr <| On 6 [84, 85, 86, 88] <| Ts1 (DR.mk A43 c43 (vrow s9 (a5 : Int) (t0 : Int)) false (d2 : Int) dlv dnn ((s9.rc (a5 : Int) (t0 : Int)).got.v) ((s9.rc (a5 : Int) (t0 : Int)).got.c) ((s9.rc (a5 : Int) (t0 : Int)).till) ((s9.rc (a5 : Int) (t0 : Int)).n) : DR) 1 (.bool false) hR2 hx44 rfl ?_
  intro w81 hat85 hk83 hz84 hlhx86 hx86
  have hsz87 := Keep.size hk83
  replace hy2 := hy2.k1 hk83
  replace hP2 := hP2.k1 hk83
  replace hsk43 := hsk43.keep hk83 (fun q hq hs => by have hs : q = bR := hs; have g0 := hsw43 q hq; have g1 := hsx43 q hq; omega)
  replace hK0 := fro hK0 hk83 hdv.own.2.2
  replace hra2 := RAll.keep hra2 hk83 (fun _ _ _ _ h hs => h hs)
  refine On 9 [85, 86, 90] <| Tss1 (DR.mk A43 c43 (vrow s9 (a5 : Int) (t0 : Int)) false 0 dlv dnn ((s9.rc (a5 : Int) (t0 : Int)).got.v) ((s9.rc (a5 : Int) (t0 : Int)).got.c) ((s9.rc (a5 : Int) (t0 : Int)).till) ((s9.rc (a5 : Int) (t0 : Int)).n) : DR) 2 (nt 0) hat85 hx86 rfl ?_
  intro w88 hat92 hk90 hz91 hlhx93 hx93
  have hsz94 := Keep.size hk90
  replace hy2 := hy2.k1 hk90
  replace hP2 := hP2.k1 hk90
  replace hsk43 := hsk43.keep hk90 (fun q hq hs => by have hs : q = bR := hs; have g0 := hsw43 q hq; have g1 := hsx43 q hq; omega)
  replace hK0 := fro hK0 hk90 hdv.own.2.2
  replace hra2 := RAll.keep hra2 hk90 (fun _ _ _ _ h hs => h hs)
  refine On 12 [86, 92] <| Tss1 (DR.mk A43 c43 (vrow s9 (a5 : Int) (t0 : Int)) false 0 0 dnn ((s9.rc (a5 : Int) (t0 : Int)).got.v) ((s9.rc (a5 : Int) (t0 : Int)).got.c) ((s9.rc (a5 : Int) (t0 : Int)).till) ((s9.rc (a5 : Int) (t0 : Int)).n) : DR) 3 (nt 0) hat92 hx93 rfl ?_
  intro w95 hat99 hk97 hz98 hlhx100 hx100
  have hsz101 := Keep.size hk97
  replace hy2 := hy2.k1 hk97
  replace hP2 := hP2.k1 hk97
  replace hsk43 := hsk43.keep hk97 (fun q hq hs => by have hs : q = bR := hs; have g0 := hsw43 q hq; have g1 := hsx43 q hq; omega)
  replace hK0 := fro hK0 hk97 hdv.own.2.2
  replace hra2 := RAll.keep hra2 hk97 (fun _ _ _ _ h hs => h hs)
  refine On 15 [94] <| Tss1 (DR.mk A43 c43 (vrow s9 (a5 : Int) (t0 : Int)) false 0 0 0 ((s9.rc (a5 : Int) (t0 : Int)).got.v) ((s9.rc (a5 : Int) (t0 : Int)).got.c) ((s9.rc (a5 : Int) (t0 : Int)).till) ((s9.rc (a5 : Int) (t0 : Int)).n) : DR) 4 (nt 0) hat99 hx100 rfl ?_
  intro w102 hat106 hk104 hz105 hlhx107 hx107
  have hsz108 := Keep.size hk104
  replace hy2 := hy2.k1 hk104
  replace hP2 := hP2.k1 hk104
  replace hsk43 := hsk43.keep hk104 (fun q hq hs => by have hs : q = bR := hs; have g0 := hsw43 q hq; have g1 := hsx43 q hq; omega)
  replace hK0 := fro hK0 hk104 hdv.own.2.2
  replace hra2 := RAll.keep hra2 hk104 (fun _ _ _ _ h hs => h hs)
  refine Oer <| Ose [(8, nt 0)] <| V_ret ?_
  have hE : undE s (a5 : Int) (t0 : Int) = 0 := by unfold undE; rw [if_neg (by omega)]; rw [if_pos (by rw [hd0]; rfl)]
  have hS : undS s (a5 : Int) (t0 : Int) now = ((undS1 s (a5 : Int) (t0 : Int) (DelS.mk (d2 : Int) dlv dnn)).setR (a5 : Int) (t0 : Int) (joinR ((undS1 s (a5 : Int) (t0 : Int) (DelS.mk (d2 : Int) dlv dnn)).rc (a5 : Int) (t0 : Int)) (w64 (now + cvPeriod dlv 8)) dnn now)) := by unfold undS; rw [if_pos hE, hd0]
  obtain ⟨hu1, hu2, hu3, hu4, hu5⟩ := und_inv s (a5 : Int) (t0 : Int) (DelS.mk (d2 : Int) dlv dnn)
  have hs8 : s9 = gotS s (DelS.mk (d2 : Int) dlv dnn).to (t0 : Int) (undW s (t0 : Int) (DelS.mk (d2 : Int) dlv dnn)) := hs9
  rw [← hs8] at hu1 hu4 hu5
  have hvr : ∀ b c, vrow ((undS1 s (a5 : Int) (t0 : Int) (DelS.mk (d2 : Int) dlv dnn)).setR (a5 : Int) (t0 : Int) (joinR ((undS1 s (a5 : Int) (t0 : Int) (DelS.mk (d2 : Int) dlv dnn)).rc (a5 : Int) (t0 : Int)) (w64 (now + cvPeriod dlv 8)) dnn now)) b c = vrow s b c := fun b c => vrow_congr hu2 hu3 b c
  have hra9 := RAll.set (F' := F) (j := a5 * 4 + t0) (s' := ((undS1 s (a5 : Int) (t0 : Int) (DelS.mk (d2 : Int) dlv dnn)).setR (a5 : Int) (t0 : Int) (joinR ((undS1 s (a5 : Int) (t0 : Int) (DelS.mk (d2 : Int) dlv dnn)).rc (a5 : Int) (t0 : Int)) (w64 (now + cvPeriod dlv 8)) dnn now))) hra2 (fun q h => h) A43 c43 (by rw [vrJ_at _ _ _ (by omega), hvr, ← hvr2]; exact hsk43) hok43 (fun i hi _ => ⟨(hvr _ _).trans (hvr2 _ _).symm, by show updR _ _ _ _ _ _ = _; unfold updR; rw [if_neg (fun h => rc_other hi ⟨h.1, h.2.symm⟩)]; exact hu5 _ _ (fun h => rc_other hi ⟨h.1, h.2.symm⟩)⟩) (e := (DR.mk A43 c43 (vrow s9 (a5 : Int) (t0 : Int)) false 0 0 0 ((s9.rc (a5 : Int) (t0 : Int)).got.v) ((s9.rc (a5 : Int) (t0 : Int)).got.c) ((s9.rc (a5 : Int) (t0 : Int)).till) ((s9.rc (a5 : Int) (t0 : Int)).n))) (by rw [vrJ_at _ _ _ (by omega), rcJ_at _ _ _ (by omega), hvr, ← hvr2]; show _ = DR.of _ _ _ (updR _ _ _ _ _ _); unfold updR; rw [if_pos ⟨rfl, rfl⟩, hu4]; unfold joinR; rw [if_neg hc48]; rfl)
  exact X_return _ rfl ⟨by rw [hE], ⟨F, by rw [hS]; exact ⟨(hdi.und1 (a5 : Int) (t0 : Int) (DelS.mk (d2 : Int) dlv dnn)).setR_ _ _ (by intro d hd; rw [joinR_d] at hd; exact (hdi.und1 (a5 : Int) (t0 : Int) (DelS.mk (d2 : Int) dlv dnn)).inv.dels _ _ d hd),(ltm hFlt), _, _, _, _, _, _, _, hy2, ⟨_, _, by show At _ _ _ _ _ _ _ ((undS1 s (a5 : Int) (t0 : Int) (DelS.mk (d2 : Int) dlv dnn)).ps.map dpc); rw [hu1]; exact hP2⟩, ⟨_, _, (by have h9 := hat106; (try simp only [List.set_set] at h9); exact h9)⟩, hdv.ne, hdv.own, by rw [List.length_set]; exact hrl2, hra9⟩, hF0⟩, hK0⟩
 have hiawho : ¬ (0 ≤ who ∧ who ≤ 9) := by have h9 : isA who = false := (by simpa using hg4); simp [isA] at h9; omega
 refine OI_eq [(0, pt y),(1, nt who),(2, nt t),(3, nt now),(15, .bool true)] (by first | rfl | rw [hg4]) <| Oen [0, 1, 2, 3, 19] <| Vo <| Vs [(8, nt 1)] <| Rt ?_
 have hE : undE s who t = 1 := by unfold undE; rw [if_pos (by omega)]
 exact X_return _ rfl ⟨by rw [hE], ⟨F, by rw [show undS s who t now = s from by unfold undS; rw [hE]; rfl]; exact ⟨hdi, (ltm hFlt), _, _, _, _, _, _, _, ⟨hy, ⟨_, _, hP⟩, ⟨_, _, hR⟩, hdv.ne, hdv.own, hdv.rlen, hra⟩⟩, hF0⟩, hK0⟩
end Go.Al
namespace Go.Al
open Go Go.RowKit Go.Proofs
theorem DInv.zero : DInv VS.zero := ⟨⟨rfl, fun c hc => (by cases hc), fun a t d hd => (by cases hd)⟩, TrkOk.zero, fun i q h => (by
  have := List.eq_of_mem_replicate (List.mem_of_getElem? h)
  cases this), List.Pairwise.nil⟩
theorem dnew_spec (w : World) : Calls Tryz.prog 43 #[] w fun e w' => ∃ y F, e = .returned (pt y) ∧ DVt F w' y VS.zero ∧ Keep none_ w w' ∧ (∀ q, F q → w.heap.size ≤ q) := by
 have hK0 := Keep.refl none_ w
 refine eV ?_
 refine Vs [] <| V_seq <| Vd (acts [0, 1, 3]) none_ [[0, 1, 2, 3, 4], [1, 0, 2, 3, 4]] ?_
 intro w2 hk1 he3 L hL4
 have hsz5 := Keep.size hk1
 replace hK0 := hK0.tn hk1
 have K6 : Keep none_ w2 w2 := Keep.refl _ _
 simp only [List.mem_cons, List.not_mem_nil, or_false] at hL4
 rcases hL4 with rfl | rfl
 ·
  refine GI_make (E := 73) (sz := 7) (by_ := 56) (m := 12) (kd := .i64) (zv := .agg #[.bool false, nt 0, nt 0, nt 0, nt 0, nt 0, nt 0]) 74 (.const (Value.int IntKind.i64 12)) (.const (Value.int IntKind.i64 12)) ((List.replicate 12 [.bool false, nt 0, nt 0, nt 0, nt 0, nt 0, nt 0]).flatten) (some 1) (by kernel_rfl) (by kernel_rfl) K6 (by kernel_rfl) (by kernel_rfl) (by kernel_rfl) (by kernel_rfl) (by decide) (by decide) (by kernel_rfl) ?_
  intro b7 w7 e7 hb7 k7 z7 K8
  have hsz9 := Keep.size k7
  replace hK0 := hK0.tn k7
  have hb7lt := hb7.lt
  refine GI_make (E := 167) (sz := 9) (by_ := 88) (m := 40) (kd := .i64) (zv := .agg #[.slice none 0 0, .bool false, nt 0, nt 0, nt 0, nt 0, nt 0, nt 0, nt 0]) 75 (.const (Value.int IntKind.i64 40)) (.const (Value.int IntKind.i64 40)) ((List.replicate 40 [.slice none 0 0, .bool false, nt 0, nt 0, nt 0, nt 0, nt 0, nt 0, nt 0]).flatten) (some 2) (by kernel_rfl) (by kernel_rfl) K8 (by kernel_rfl) (by kernel_rfl) (by kernel_rfl) (by kernel_rfl) (by decide) (by decide) (by kernel_rfl) ?_
  intro b10 w10 e10 hb10 k10 z10 K11
  have hsz12 := Keep.size k10
  replace hK0 := hK0.tn k10
  have hb10lt := hb10.lt
  refine Gn [3, 4] [3] <| GI_box 77 (.tmp 3) (.agg #[sl_ b7 0 12 12, sl_ b10 0 40 40]) [sl_ b7 0 12 12, sl_ b10 0 40 40] (some 4) (by kernel_rfl) (by kernel_rfl) K11 (by kernel_rfl) (by kernel_rfl) ?_
  intro b13 w13 e13 hb13 k13 z13 K14
  have hsz15 := Keep.size k13
  replace hb7 := hb7.k0 (k10.tr k13)
  replace hb10 := hb10.k0 k13
  replace hK0 := hK0.tn k13
  have hb13lt := hb13.lt
  refine Gs [] [(0, pt b13)] <| GI_end <| X_then <| V_ret ?_
  have hsP : SlT w13 7 dpc (some ⟨b7, 0, none⟩) 12 (List.replicate 12 (none : Option PollS)) := slt_blk (xs := List.replicate 12 (none : Option PollS)) (f := dpc) hb7 dpc_len rfl
  have hsR : SlT w13 9 DR.cells (some ⟨b10, 0, none⟩) 40 (List.replicate 40 (DR.of none 0 [] RecS.zero)) := slt_blk (xs := List.replicate 40 (DR.of none 0 [] RecS.zero)) (f := DR.cells) hb10 DR.len rfl
  obtain ⟨bP9, oP9, LP9, TP9, eP9, hP9⟩ := SlT.open_ hsP (by decide)
  cases eP9
  obtain ⟨bR9, oR9, LR9, TR9, eR9, hR9⟩ := SlT.open_ hsR (by decide)
  cases eR9
  exact X_return _ rfl ⟨b13, (fun q => q = b13 ∨ q = b7 ∨ q = b10), rfl, ⟨DInv.zero, fun q hq => by rcases hq with h | h | h <;> omega, b7, 0, 12, b10, 0, 40, _, ⟨hb13, ⟨_, _, hP9⟩, ⟨_, _, hR9⟩, ⟨by omega, by omega, by omega⟩, ⟨.inl rfl, .inr (.inl rfl), .inr (.inr rfl)⟩, by simp, fun j d hd => by obtain rfl := List.eq_of_mem_replicate (List.mem_of_getElem? hd); exact ⟨rfl, SlT.nil _ _ _, fun q hq => (inA_none hq).elim⟩⟩⟩, hK0, fun q hq => by rcases hq with h | h | h <;> omega⟩
 ·
  refine GI_make (E := 167) (sz := 9) (by_ := 88) (m := 40) (kd := .i64) (zv := .agg #[.slice none 0 0, .bool false, nt 0, nt 0, nt 0, nt 0, nt 0, nt 0, nt 0]) 75 (.const (Value.int IntKind.i64 40)) (.const (Value.int IntKind.i64 40)) ((List.replicate 40 [.slice none 0 0, .bool false, nt 0, nt 0, nt 0, nt 0, nt 0, nt 0, nt 0]).flatten) (some 2) (by kernel_rfl) (by kernel_rfl) K6 (by kernel_rfl) (by kernel_rfl) (by kernel_rfl) (by kernel_rfl) (by decide) (by decide) (by kernel_rfl) ?_
  intro b16 w16 e16 hb16 k16 z16 K17
  have hsz18 := Keep.size k16
  replace hK0 := hK0.tn k16
  have hb16lt := hb16.lt
  refine GI_make (E := 73) (sz := 7) (by_ := 56) (m := 12) (kd := .i64) (zv := .agg #[.bool false, nt 0, nt 0, nt 0, nt 0, nt 0, nt 0]) 74 (.const (Value.int IntKind.i64 12)) (.const (Value.int IntKind.i64 12)) ((List.replicate 12 [.bool false, nt 0, nt 0, nt 0, nt 0, nt 0, nt 0]).flatten) (some 1) (by kernel_rfl) (by kernel_rfl) K17 (by kernel_rfl) (by kernel_rfl) (by kernel_rfl) (by kernel_rfl) (by decide) (by decide) (by kernel_rfl) ?_
  intro b19 w19 e19 hb19 k19 z19 K20
  have hsz21 := Keep.size k19
  replace hK0 := hK0.tn k19
  have hb19lt := hb19.lt
  refine Gn [3, 4] [3] <| GI_box 77 (.tmp 3) (.agg #[sl_ b19 0 12 12, sl_ b16 0 40 40]) [sl_ b19 0 12 12, sl_ b16 0 40 40] (some 4) (by kernel_rfl) (by kernel_rfl) K20 (by kernel_rfl) (by kernel_rfl) ?_
  intro b22 w22 e22 hb22 k22 z22 K23
  have hsz24 := Keep.size k22
  replace hb16 := hb16.k0 (k19.tr k22)
  replace hb19 := hb19.k0 k22
  replace hK0 := hK0.tn k22
  have hb22lt := hb22.lt
  refine Gs [] [(0, pt b22)] <| GI_end <| X_then <| V_ret ?_
  have hsP : SlT w22 7 dpc (some ⟨b19, 0, none⟩) 12 (List.replicate 12 (none : Option PollS)) := slt_blk (xs := List.replicate 12 (none : Option PollS)) (f := dpc) hb19 dpc_len rfl
  have hsR : SlT w22 9 DR.cells (some ⟨b16, 0, none⟩) 40 (List.replicate 40 (DR.of none 0 [] RecS.zero)) := slt_blk (xs := List.replicate 40 (DR.of none 0 [] RecS.zero)) (f := DR.cells) hb16 DR.len rfl
  obtain ⟨bP9, oP9, LP9, TP9, eP9, hP9⟩ := SlT.open_ hsP (by decide)
  cases eP9
  obtain ⟨bR9, oR9, LR9, TR9, eR9, hR9⟩ := SlT.open_ hsR (by decide)
  cases eR9
  exact X_return _ rfl ⟨b22, (fun q => q = b22 ∨ q = b19 ∨ q = b16), rfl, ⟨DInv.zero, fun q hq => by rcases hq with h | h | h <;> omega, b19, 0, 12, b16, 0, 40, _, ⟨hb22, ⟨_, _, hP9⟩, ⟨_, _, hR9⟩, ⟨by omega, by omega, by omega⟩, ⟨.inl rfl, .inr (.inl rfl), .inr (.inr rfl)⟩, by simp, fun j d hd => by obtain rfl := List.eq_of_mem_replicate (List.mem_of_getElem? hd); exact ⟨rfl, SlT.nil _ _ _, fun q hq => (inA_none hq).elim⟩⟩⟩, hK0, fun q hq => by rcases hq with h | h | h <;> omega⟩
end Go.Al
namespace Go.Al
open Go Go.RowKit Go.Proofs
theorem new_ok (A : Option Addr) (cap : Nat) (fs : List Int) (w : World) (hA : ArgT w 1 intc A cap fs) (hn : fs.length ≤ 100000) (hok : okP fs) : Calls Tryz.prog 29 #[.slice A fs.length cap] w fun e w' => ∃ l F, e = .returned (.tuple #[pt l, nt 0]) ∧ Led F w' l (newX fs 10) [] ∧ Keep none_ w w' ∧ (∀ q, F q → w.heap.size ≤ q) :=
  (new_spec6 A cap fs w hA hn).mono (by
    rintro e w' (⟨_, h⟩ | ⟨h, _⟩)
    · exact h
    · exact absurd hok h)
theorem casts_at (F : Nat → Prop) (v : Nat) (P : VP) (s : VS) (a t : Int) (w : World) (h : Vot F w v P s) (hmx : (vrow s a t).length ≤ 100) : Calls Tryz.prog 19 #[pt v, nt a, nt t] w fun e w' => ∃ Ak capk, e = .returned (.tuple #[.slice Ak (vrow s a t).length capk, .bool true]) ∧ SlT w' 7 castc Ak capk (vrow s a t) ∧ Keep none_ w w' ∧ (∀ q, inA Ak q → w.heap.size ≤ q) := by
 have hFlt := Vot.lt h
 have hvlt := hFlt _ (Vot.at_ h)
 have hFo : ∀ q, F q → 0 ≤ q := fun q _ => Nat.zero_le q
 have hFr : ∀ q, F q → F q ∨ w.heap.size ≤ q := fun _ h => .inl h
 have hK0 := Keep.refl none_ w
 refine enterM Tryz.func19 rfl [pt v, nt a, nt t] 31 rfl rfl rfl ?_
 refine Vp [(0, pt v),(1, nt a),(2, nt t)] <| Vr <| Alc_ 39 (.slice none 0 0) [.slice none 0 0] ?_
 intro b1 w1 e1 hb1 k1 z1
 have hsz2 := Keep.size k1
 replace h := h.keep k1 nk
 replace hK0 := hK0.tn k1
 have hb1lt := hb1.lt
 refine Alc_ 4 (.bool false) [.bool false] ?_
 intro b3 w3 e3 hb3 k3 z3
 have hsz4 := Keep.size k3
 replace h := h.keep k3 nk
 replace hK0 := hK0.tn k3
 have hb3lt := hb3.lt
 refine Oer <| On 3 [6, 7, 12, 13, 14] <| Ok (kl 60 #[(.tmp 12),(.tmp 13),(.tmp 14)] #[31, 3, 3]) 60 #[pt v, nt a, nt t] (some 15) (votesfn_spec _ rfl a t _) ?_
 rintro _ w5 ⟨bv7, bw8, bt9, rfl, hbv7, hbw8, hbt9, hk6, hgebv7, hgebw8, hgebt9⟩
 refine ⟨_, rfl, ?_⟩
 have hsz10 := Keep.size hk6
 replace h := h.keep hk6 nk
 replace hK0 := hK0.tn hk6
 have hbv7lt := hbv7.lt
 have hbw8lt := hbw8.lt
 have hbt9lt := hbt9.lt
 refine On 5 [6, 7, 8] <| Oe <| V_seq <| Vn [6, 7, 8, 17] <| Vf <| Vsk <| Vr <| Alc_ 39 (.slice none 0 0) [.slice none 0 0] ?_
 intro b11 w11 e11 hb11 k11 z11
 have hsz12 := Keep.size k11
 replace hb1 := hb1.k0 ((k3.tr hk6).tr k11)
 replace hb3 := hb3.k0 (hk6.tr k11)
 replace hbv7 := hbv7.k0 k11
 replace hbw8 := hbw8.k0 k11
 replace hbt9 := hbt9.k0 k11
 replace h := h.keep k11 nk
 replace hK0 := hK0.tn k11
 have hb11lt := hb11.lt
 refine Oe <| V_seq <| Vn [6, 7, 9, 18] <| V_block ?_
 obtain ⟨A13, cap13, hva13⟩ := Vot.arr h
 have hal13 := VotA.lenA hva13
 have hcl9 := Vot.cslen h
 have hvl9 := vrow_len s a t
 refine Vp [(6, pt b1),(7, pt b3),(9, pt b11),(18, .func (.func 94) #[] #[pt bv7, pt bw8, pt bt9])] ?_
 have hN0 : w.heap.size ≤ w11.heap.size := Keep.size hK0
 refine V_range2 (gf := 94) (caps := #[pt bv7, pt bw8, pt bt9]) (m := (vrow s a t).length) (by kernel_rfl) (by kernel_rfl) (by kernel_rfl) (votes1_iter bv7 bw8 bt9 v P.gv P.gr cap13 P.pp A13 s a t (by omega)) (⟨VotA.grat hva13, VotA.ok hva13 rfl (fun _ => rfl) hbv7 hbw8 hbt9⟩) (fun W W' h k => ⟨h.1.quiet k, h.2.quiet k⟩) (GV.enc2_size _) (fun M1 k W => ∃ Ak : Option Addr, ∃ capk : Nat, (Blk W b1 [.slice none 0 0] 39) ∧ (Blk W b3 [.bool false] 4) ∧ (Blk W bv7 [pt v] 31) ∧ (Blk W bw8 [nt a] 3) ∧ (Blk W bt9 [nt t] 3) ∧ (VotA A13 cap13 F W v P s) ∧ (Keep none_ w W) ∧ (Blk W b11 [.slice Ak (((vrow s a t).take k).length) capk] 39) ∧ (SlT W 7 castc Ak capk ((vrow s a t).take k)) ∧ (∀ q, inA Ak q → M1 ≤ q)) (fun M1 c k W => False) (fun M1 k W W' h hk => by obtain ⟨Ak, capk, jb1, jb3, jbv7, jbw8, jbt9, jhva13, jhK0, jb11, jAk, ownk⟩ := h; exact ⟨Ak, capk, jb1.quiet hk, jb3.quiet hk, jbv7.quiet hk, jbw8.quiet hk, jbt9.quiet hk, VotA.quiet jhva13 hk, jhK0.quiet hk (by omega), jb11.quiet hk, jAk.quiet hk, ownk⟩) (fun _ _ _ _ _ h _ => h.elim) (fun M1 hM1 => ⟨none, 0, hb1, hb3, hbv7, hbw8, hbt9, hva13, hK0, hb11, SlT.nil _ _ _, fun q h => (inA_none h).elim⟩) (fun M1 k W h => by obtain ⟨Ak, capk, jb1, jb3, jbv7, jbw8, jbt9, jhva13, jhK0, jb11, jAk, ownk⟩ := h; exact (VotA.ok jhva13 rfl (fun _ => rfl) jbv7 jbw8 jbt9)) ?_ ?_ (fun _ _ _ _ _ _ _ _ h _ => h.elim)
 ·
  intro lp D M1 k W hD hl hM hMW hkm ⟨Ak, capk, jb1, jb3, jbv7, jbw8, jbt9, jhva13, jhK0, jb11, jAk, ownk⟩ ⟨rr, hrr⟩ hDD
  have hzjhK0 := Keep.size jhK0
  have hb1lt := jb1.lt
  have hb3lt := jb3.lt
  have hbv7lt := jbv7.lt
  have hbw8lt := jbw8.lt
  have hbt9lt := jbt9.lt
  have hb11lt := jb11.lt
  have ltjAk := SlT.lt jAk
  obtain ⟨x, hx⟩ : ∃ x, (vrow s a t)[k]? = some x := ⟨_, List.getElem?_eq_getElem (by omega)⟩
  rw [GV.enc2_at hx]
  have hlk : ((vrow s a t).take k).length = k := by rw [List.length_take]; omega
  have hs1 : (vrow s a t).take (k + 1) = (vrow s a t).take k ++ [x] := by obtain ⟨h1, h2⟩ := List.getElem?_eq_some_iff.1 hx; rw [List.take_succ_eq_append_getElem h1, h2]
  refine Vp [(6, pt b1),(7, pt b3),(9, pt b11),(19, nt x.1),(20, .agg (Vt.cells x.2).toArray)] ?_
  have hfen : Keep (fen w11.heap.size M1) W W := Keep.refl _ _
  have hzhfen := Keep.size hfen
  refine Vs [(6, pt b1),(7, pt b3),(9, pt b11),(10, nt x.1),(20, .agg (Vt.cells x.2).toArray)] <| V_region <| OI_alloc 23 (.agg #[nt 0, .bool false, nt 0, nt 0, nt 0, nt 0]) [nt 0, .bool false, nt 0, nt 0, nt 0, nt 0] (some 11) (by kernel_rfl) (by kernel_rfl) (by kernel_rfl) ?_
  intro b14 w14 e14 hb14 k14 z14
  have hsz15 := Keep.size k14
  replace jb1 := jb1.k0 k14
  replace jb3 := jb3.k0 k14
  replace jbv7 := jbv7.k0 k14
  replace jbw8 := jbw8.k0 k14
  replace jbt9 := jbt9.k0 k14
  replace jb11 := jb11.k0 k14
  replace jAk := jAk.keep0 k14
  replace jhva13 := VotA.keep jhva13 k14 nk
  replace jhK0 := jhK0.tn k14
  replace hfen := hfen.tn k14
  have hb14lt := hb14.lt
  refine Sg 0 (Vt.cells x.2) hb14 (Vt.len _) (Vt.one _) ?_
  intro w16 hb14_19 hk17 hz18
  replace hb14_19 : Blk w16 b14 (Vt.cells x.2) 23 := (by rwa [over_whole (by rw [Vt.len]; rfl)] at hb14_19)
  have hsz20 := Keep.size hk17
  replace jb1 := jb1.k1 hk17
  replace jb3 := jb3.k1 hk17
  replace jbv7 := jbv7.k1 hk17
  replace jbw8 := jbw8.k1 hk17
  replace jbt9 := jbt9.k1 hk17
  replace jb11 := jb11.k1 hk17
  replace jAk := jAk.keep hk17 (fun q hq hs => by have hs : q = b14 := hs; have g0 := ownk q hq; have g1 := ltjAk q hq; omega)
  replace jhva13 := VotA.keep jhva13 hk17 (fun q hq hs => by have hs : q = b14 := hs; have g0 := hFo q hq; have g1 := hFlt q hq; omega)
  replace jhK0 := Keep.fr jhK0 hk17
  replace hfen := Keep.fresh hfen hk17 (by intro i hi hs; have hs2 : i = b14 := hs; show _ ∨ _; omega)
  refine OI_end rfl <| X_begin2 hfen ?_
  intro W2 hk2 ⟨r2, hr2⟩ hD2
  have hsz21 := Keep.size hk2
  replace jb1 := Blk.quiet jb1 hk2
  replace jb3 := Blk.quiet jb3 hk2
  replace jbv7 := Blk.quiet jbv7 hk2
  replace jbw8 := Blk.quiet jbw8 hk2
  replace jbt9 := Blk.quiet jbt9 hk2
  replace jb11 := Blk.quiet jb11 hk2
  replace hb14_19 := Blk.quiet hb14_19 hk2
  replace jAk := jAk.quiet hk2
  replace jhva13 := VotA.quiet jhva13 hk2
  replace jhK0 := Keep.quiet jhK0 hk2 (by omega)
  have hzhk2 := Keep.size hk2
  have hfenb : Keep (fen w11.heap.size M1) W2 W2 := Keep.refl _ _
  have hzhfenb := Keep.size hfenb
  refine V_block <| Vr <| Lr 0 (.slice Ak (((vrow s a t).take k).length) capk) jb11 <| On 2 [6, 7, 9, 11, 21, 22] <| La 0 (Vt.cells x.2) 6 hb14_19 (take_all (Vt.len _)) (Vt.len _) <| On 4 [6, 7, 9, 21, 24] <| OI_slit (E := 46) (zv := .agg #[nt 0, nt 0, .bool false, nt 0, nt 0, nt 0, nt 0]) (sz := 7) (by_ := 56) 39 1 #[(0, (Operand.tmp 24))] [.agg #[nt x.1, nt x.2.kind, .bool x.2.aye, nt x.2.level, nt x.2.a, nt x.2.n, nt x.2.s]] [nt x.1, nt x.2.kind, .bool x.2.aye, nt x.2.level, nt x.2.a, nt x.2.n, nt x.2.s] (some 25) (by kernel_rfl) (by kernel_rfl) (by kernel_rfl) (by omega) rfl (by omega) (by intro v hv; simp only [List.mem_cons, List.not_mem_nil, or_false] at hv; rcases hv with rfl <;> rfl) (by kernel_rfl) rfl ?_
  intro b22 w22 e22 hb22 k22 z22
  have hsz23 := Keep.size k22
  replace jb1 := jb1.k0 k22
  replace jb3 := jb3.k0 k22
  replace jbv7 := jbv7.k0 k22
  replace jbw8 := jbw8.k0 k22
  replace jbt9 := jbt9.k0 k22
  replace jb11 := jb11.k0 k22
  replace jAk := jAk.keep0 k22
  replace jhva13 := VotA.keep jhva13 k22 nk
  replace jhK0 := jhK0.tn k22
  replace hfenb := hfenb.tn k22
  have hb22lt := hb22.lt
  refine OI_append (t := 39) (at2 := 39) (E := 46) (E2 := 46) (sz := 7) (by_ := 56) (zv := .agg #[nt 0, nt 0, .bool false, nt 0, nt 0, nt 0, nt 0]) (m := ((vrow s a t).take k).length) (k := 1) (.tmp 21) (.tmp 25) (.slice Ak (((vrow s a t).take k).length) capk) (sl_ b22 0 1 1) (some 26) (by kernel_rfl) (by kernel_rfl) (by kernel_rfl) (by kernel_rfl) (by kernel_rfl) (by kernel_rfl) (by kernel_rfl) (SlT.slr jAk) (slr_one hb22 (castc_len x)) (castc_one x) (by first | omega | (simp only [List.length_nil]; omega)) (by omega) (by first | omega | (simp only [List.length_nil]; omega)) (by omega) ?_
  intro vv9 w24 hap
  obtain ⟨A24, cap24, rfl, hA24, hk24, own24x⟩ := app_one (f := castc) (xs := ((vrow s a t).take k)) (x := x) (A := Ak) (cap := capk) hap (fun x _ => castc_len x) (castc_len _)
  have own24 : ∀ q, inA A24 q → M1 ≤ q := fun q hq => by rcases own24x q hq with h | h; exact ownk q h; (show M1 ≤ q; omega)
  have hsz25 := Keep.size hk24
  replace jb1 := jb1.keep hk24 (fun hs => by have h1 := ownk _ hs; have h2 := ltjAk _ hs; omega)
  replace jb3 := jb3.keep hk24 (fun hs => by have h1 := ownk _ hs; have h2 := ltjAk _ hs; omega)
  replace jbv7 := jbv7.keep hk24 (fun hs => by have h1 := ownk _ hs; have h2 := ltjAk _ hs; omega)
  replace jbw8 := jbw8.keep hk24 (fun hs => by have h1 := ownk _ hs; have h2 := ltjAk _ hs; omega)
  replace jbt9 := jbt9.keep hk24 (fun hs => by have h1 := ownk _ hs; have h2 := ltjAk _ hs; omega)
  replace jb11 := jb11.keep hk24 (fun hs => by have h1 := ownk _ hs; have h2 := ltjAk _ hs; omega)
  replace jhva13 := VotA.keep jhva13 hk24 (fun q hq hs => by have g0 := hFo q hq; have g1 := hFlt q hq; have h1 := ownk q hs; have h2 := ltjAk q hs; omega)
  replace jhK0 := Keep.fresh jhK0 hk24 (by intro i hi hs; first | exact hs | (exfalso; have h1 := ownk i hs; have h2 := ltjAk i hs; omega) | (have h1 := ownk i hs; have h2 := ltjAk i hs; show _ ∨ _; omega))
  replace hfenb := Keep.fresh hfenb hk24 (by intro i hi hs; have h1 := ownk i hs; have h2 := ltjAk i hs; show _ ∨ _; omega)
  have lt24 := SlT.lt hA24
  refine St_ 0 (.slice A24 ((((vrow s a t).take k) ++ [x]).length) cap24) jb11 ?_
  intro w26 hb11_29 hk27 hz28
  replace hb11_29 : Blk w26 b11 [.slice A24 ((((vrow s a t).take k) ++ [x]).length) cap24] 39 := hb11_29
  have hsz30 := Keep.size hk27
  replace jb1 := jb1.k1 hk27
  replace jb3 := jb3.k1 hk27
  replace jbv7 := jbv7.k1 hk27
  replace jbw8 := jbw8.k1 hk27
  replace jbt9 := jbt9.k1 hk27
  replace hA24 := hA24.keep hk27 (fun q hq hs => by have hs : q = b11 := hs; have g0 := own24 q hq; have g1 := lt24 q hq; omega)
  replace jhva13 := VotA.keep jhva13 hk27 (fun q hq hs => by have hs : q = b11 := hs; have g0 := hFo q hq; have g1 := hFlt q hq; omega)
  replace jhK0 := Keep.fr jhK0 hk27
  replace hfenb := Keep.fresh hfenb hk27 (by intro i hi hs; have hs2 : i = b11 := hs; show _ ∨ _; omega)
  refine Oer <| Lr 0 (.slice A24 ((((vrow s a t).take k) ++ [x]).length) cap24) hb11_29 <| Ose [(6, pt b1),(7, pt b3),(29, .bool (decide ((((((vrow s a t).take k) ++ [x]).length : Nat) : Int) > 100)))] <| Vi ((((((vrow s a t).take k) ++ [x]).length : Nat) : Int) > 100) (fun hc31 => ?_) (fun hc31 => ?_)
  ·
   exact (by simp only [List.length_append, List.length_cons, List.length_nil] at hc31; omega : False).elim
  refine V_skip <| X_block ?_
  exact fun a _ => ⟨hfenb, A24, cap24, jb1, jb3, jbv7, jbw8, jbt9, jhva13, jhK0, by rw [hs1]; exact hb11_29, by rw [hs1]; exact hA24, own24⟩
 ·
  intro D M1 W hD hM ⟨Ak, capk, jb1, jb3, jbv7, jbw8, jbt9, jhva13, jhK0, jb11, jAk, ownk⟩ hDD
  have hzjhK0 := Keep.size jhK0
  have hb1lt := jb1.lt
  have hb3lt := jb3.lt
  have hbv7lt := jbv7.lt
  have hbw8lt := jbw8.lt
  have hbt9lt := jbt9.lt
  have hb11lt := jb11.lt
  have ltjAk := SlT.lt jAk
  rw [List.take_length] at jAk jb11
  refine X_block <| X_then <| Vr <| Oc 39 (.tmp 9) 0 (.slice Ak ((vrow s a t).length) capk) (some 30) jb11 rfl <| St_ 0 (.slice Ak ((vrow s a t).length) capk) jb1 ?_
  intro w32 hb1_35 hk33 hz34
  replace hb1_35 : Blk w32 b1 [.slice Ak ((vrow s a t).length) capk] 39 := hb1_35
  have hsz36 := Keep.size hk33
  replace jb3 := jb3.k1 hk33
  replace jAk := jAk.keep hk33 (fun q hq hs => by have hs : q = b1 := hs; have g0 := ownk q hq; have g1 := ltjAk q hq; omega)
  replace jhK0 := Keep.fr jhK0 hk33
  replace hDD := (Keep.block hk33 _ (Array.getElem?_eq_some_iff.1 hDD).1 (by show ¬ (_ = _); omega)).trans hDD
  refine St_ 0 (.bool true) jb3 ?_
  intro w37 hb3_40 hk38 hz39
  replace hb3_40 : Blk w37 b3 [.bool true] 4 := hb3_40
  have hsz41 := Keep.size hk38
  replace hb1_35 := hb1_35.k1 hk38
  replace jAk := jAk.keep hk38 (fun q hq hs => by have hs : q = b3 := hs; have g0 := ownk q hq; have g1 := ltjAk q hq; omega)
  replace jhK0 := Keep.fr jhK0 hk38
  replace hDD := (Keep.block hk38 _ (Array.getElem?_eq_some_iff.1 hDD).1 (by show ¬ (_ = _); omega)).trans hDD
  refine Oe <| V_ret ?_
  exact leave1 (.tuple #[.slice Ak (vrow s a t).length capk, .bool true]) (.inl rfl) hDD (fun w' hk => ⟨res_cells2 (n1 := 1) (n2 := 1) rfl rfl rfl (by kernel_rfl) (by kernel_rfl) (Blk.quiet hb1_35 hk) (Blk.quiet hb3_40 hk) , ⟨Ak, capk, rfl, SlT.quiet jAk hk, Keep.quiet jhK0 hk (by omega), fun q h => (by have := ownk q h; omega)⟩⟩)
end Go.Al
namespace Go.Al
open Go Go.RowKit Go.Proofs
variable {fs : List Int}
def msk24 (fs : List Int) : List Int := fs.map fun x => bAnd x 16777215
theorem msk24_at {x : Int} (h : x ∈ msk24 fs) : 0 ≤ x ∧ x ≤ 16777215 := by
  obtain ⟨y, _, rfl⟩ := List.mem_map.1 h
  exact bAnd_le y 16777215 (by decide)
theorem msk24_step {i : Nat} {x : Int} (h : fs[i]? = some x) : msk24 (fs.take (i + 1)) = msk24 (fs.take i) ++ [bAnd x 16777215] := by
  obtain ⟨h1, rfl⟩ := List.getElem?_eq_some_iff.1 h
  unfold msk24; rw [List.take_succ_eq_append_getElem h1, List.map_append]; rfl
theorem tot_newX_step (fs : List Int) (n : Nat) : tot (newX fs (n + 1)) = tot (newX fs n) + (fs[n]?).getD 0 := by
  have happ : ∀ (a b : List Acc), tot (a ++ b) = tot a + tot b := by
    intro a b
    induction a with
    | nil => simp [tot]
    | cons y l ih => simp only [List.cons_append, tot, ih]; omega
  rw [newX_succ, happ]
  simp only [tot]
  omega
theorem newX_tot24 {fs : List Int} (h : ∀ x ∈ fs, 0 ≤ x ∧ x ≤ 16777215) : ∀ i : Nat, tot (newX fs i) ≤ i * 16777215
  | 0 => by simp [newX, tot]
  | i + 1 => by
    have ih := newX_tot24 h i
    rw [tot_newX_step]
    have : (fs[i]?).getD 0 ≤ 16777215 := by
      cases hf : fs[i]? with
      | none => simp
      | some x => exact (h x (List.mem_of_getElem? hf)).2
    omega
theorem msk24_ok (h : fs.length ≤ 10) : okP (msk24 fs) :=
  ⟨by simpa [msk24] using h, fun x hx => by have := msk24_at hx; omega, by have := newX_tot24 (fs := msk24 fs) (fun x hx => msk24_at hx) 10; omega⟩
end Go.Al
namespace Go.Al
open Go Go.RowKit Go.Proofs
theorem setC_len (a b v : Int) : ∀ cs : List Ci, (setC a b v cs).length ≤ cs.length + 1
  | [] => by simp [setC]
  | x :: l => by
    have := setC_len a b v l
    simp only [setC]
    split
    · simp
    · split
      · simp only [List.length_cons]; omega
      · simp
theorem delC_len (a b : Int) : ∀ cs : List Ci, (delC a b cs).length ≤ cs.length
  | [] => by simp [delC]
  | x :: l => by
    have := delC_len a b l
    simp only [delC]
    split <;> simp <;> omega
theorem lockC_len (cs : List Ci) (a i n : Int) : (lockC cs a i n).length ≤ cs.length + 1 := by
  unfold lockC
  split
  · split
    · have := delC_len a i cs; omega
    · exact setC_len _ _ _ _
  · omega
theorem raiseC_len (cs : List Ci) (a i n : Int) : (raiseC cs a i n).length ≤ cs.length + 1 := by
  unfold raiseC
  split
  · omega
  · exact lockC_len _ _ _ _
theorem rowL12 {F : Nat → Prop} {w : World} {v : Nat} {s : VS} (h : VotT F w v s) (a t : Int) : (vrow s a t).length ≤ 12 := by
  obtain ⟨⟨P, F1, F2, M, hX, _⟩, _⟩ := h
  have hs := hX.gv.1
  unfold vrow
  refine Nat.le_trans (List.length_filter_le _ _) ?_
  unfold GV.rowL
  have h1 : ((s.cs.filter (fun c => c.a == a)).map (fun c => c.b)).length ≤ 12 := sorted_len (by
    rw [List.pairwise_map]
    refine List.Pairwise.imp_of_mem ?_ (List.Pairwise.filter _ hs)
    intro x y hx hy hxy
    have e1 : x.a = a := by have := (List.mem_filter.1 hx).2; simpa using this
    have e2 : y.a = a := by have := (List.mem_filter.1 hy).2; simpa using this
    rcases hxy with h | h <;> omega) (by
    intro z hz
    obtain ⟨c, hc, rfl⟩ := List.mem_map.1 hz
    exact (hX.inv.votes c (List.mem_filter.1 hc).1).2.1)
  simpa using h1
theorem casts_spec (F : Nat → Prop) (v : Nat) (s : VS) (a t : Int) (w : World) (h : VotT F w v s) : Calls Tryz.prog 19 #[pt v, nt a, nt t] w fun e w' => ∃ Ak capk, e = .returned (.tuple #[.slice Ak (vrow s a t).length capk, .bool true]) ∧ SlT w' 7 castc Ak capk (vrow s a t) ∧ Keep none_ w w' ∧ (∀ q, inA Ak q → w.heap.size ≤ q) := by
  have hl := rowL12 h a t
  obtain ⟨⟨P, hP⟩, _⟩ := h
  exact casts_at F v P s a t w hP (by omega)
theorem Led.srt {F : Nat → Prop} {w : World} {l : Nat} {xs : List Acc} {cs : List Ci} (h : Led F w l xs cs) : Srt cs := by
  obtain ⟨_, _, _, g, A, cap, D, _, hG, _⟩ := h
  exact hG.1
end Go.Al
namespace Go.Al
open Go Go.RowKit Go.Proofs
variable {fs : List Int}
def sumI : List Int → Int
  | [] => 0
  | x :: l => x + sumI l
theorem sumI_app (l : List Int) (x : Int) : sumI (l ++ [x]) = sumI l + x := by
  induction l with
  | nil => simp [sumI]
  | cons y l ih => simp only [List.cons_append, sumI, ih]; omega
theorem tot_app (a b : List Acc) : tot (a ++ b) = tot a + tot b := by
  induction a with
  | nil => simp [tot]
  | cons y l ih => simp only [List.cons_append, tot, ih]; omega
theorem sum_bnd : ∀ (l : List Int),(∀ y ∈ l, 0 ≤ y ∧ y ≤ 1073741824) → 0 ≤ sumI l ∧ sumI l ≤ 1073741824 * l.length
  | [], _ => by simp [sumI]
  | x :: l, h => by
    have h1 := h x (List.mem_cons_self ..)
    have h2 := sum_bnd l (fun y hy => h y (List.mem_cons_of_mem _ hy))
    rw [sumI, List.length_cons]; omega
theorem tot_new : ∀ (n : Nat) (fs : List Int), fs.length ≤ n → tot (newX fs n) = sumI fs
  | 0, fs, h => by
    obtain rfl := List.length_eq_zero_iff.1 (Nat.le_zero.1 h)
    rfl
  | n + 1, fs, h => by
    rw [newX_succ, tot_app]
    by_cases hn : fs.length ≤ n
    · rw [tot_new n fs hn, List.getElem?_eq_none hn]; simp [tot]
    · have hn : fs.length = n + 1 := by omega
      have hx : fs[n]? = some fs[n] := List.getElem?_eq_getElem (by omega)
      have ht : fs.take n ++ [fs[n]] = fs := by
        have := List.take_succ_eq_append_getElem (l := fs) (i := n) (by omega)
        rw [← this, List.take_of_length_le (by omega)]
      have he : newX fs n = newX (fs.take n) n := by
        unfold newX
        refine List.map_congr_left fun k hk => ?_
        rw [List.getElem?_take, if_pos (List.mem_range.1 hk)]
      have hs : sumI fs = sumI (fs.take n) + fs[n] := by rw [← sumI_app, ht]
      rw [he, tot_new n (fs.take n) (by rw [List.length_take]; omega), hx, hs]
      simp [tot]
def dsN (fs : List Int) (i : Nat) : List DE := (List.range 10).map fun k => ⟨if k < i then (fs[k]?).getD 0 else 0, 0, none, 0, []⟩
theorem dsN_len (fs : List Int) (i : Nat) : (dsN fs i).length = 10 := by simp [dsN]
theorem dsN_at {i k : Nat} {d : DE} (h : (dsN fs i)[k]? = some d) : k < 10 ∧ d = ⟨if k < i then (fs[k]?).getD 0 else 0, 0, none, 0, []⟩ := by
  obtain ⟨h1, h2⟩ := List.getElem?_eq_some_iff.1 h
  rw [dsN_len] at h1
  exact ⟨h1, by rw [← h2]; simp [dsN]⟩
theorem dsN_step {i : Nat} {x : Int} (h : fs[i]? = some x) : (dsN fs i).set i ⟨x, 0, none, 0, []⟩ = dsN fs (i + 1) := by
  refine List.ext_getElem? fun k => ?_
  by_cases hk : k = i
  · subst hk
    by_cases hl : k < 10
    · rw [List.getElem?_set_self (by rw [dsN_len]; exact hl)]; simp [dsN, hl, h]
    · rw [List.getElem?_eq_none (by rw [List.length_set, dsN_len]; omega), List.getElem?_eq_none (by rw [dsN_len]; omega)]
  · rw [List.getElem?_set_ne (Ne.symm hk)]
    by_cases hl : k < 10
    · simp [dsN, hl]
      have : k < i ↔ k < i + 1 := by omega
      by_cases h3 : k < i
      · rw [if_pos h3, if_pos (by omega)]
      · rw [if_neg h3, if_neg (by omega)]
    · rw [List.getElem?_eq_none (by rw [dsN_len]; omega), List.getElem?_eq_none (by rw [dsN_len]; omega)]
theorem dsN_acc (h : fs.length ≤ 10) : (dsN fs fs.length).map DE.acc = newX fs 10 := by
  unfold dsN newX
  rw [List.map_map]
  refine List.map_congr_left fun k hk => ?_
  show Acc.mk (if k < fs.length then (fs[k]?).getD 0 else 0) 0 = _
  by_cases h3 : k < fs.length
  · rw [if_pos h3]
  · rw [if_neg h3, List.getElem?_eq_none (by omega)]; rfl
theorem okC_nil : OkC [] := ⟨by decide, List.Pairwise.nil, fun c h => by cases h⟩
theorem newX_inv (h : okP fs) : Inv (newX fs 10) := by
  refine ⟨by simp [newX], fun x hx => ?_, h.2.2⟩
  obtain ⟨k, _, rfl⟩ := List.mem_map.1 hx
  show 0 ≤ (fs[k]?).getD 0 ∧ 0 ≤ (0 : Int)
  refine ⟨?_, by decide⟩
  cases hk : fs[k]? with
  | none => exact Int.le_refl _
  | some x => exact (h.2.1 x (List.mem_of_getElem? hk)).1
set_option maxHeartbeats 1000000 in
theorem new6_spec (A : Option Addr) (cap : Nat) (fs : List Int) (w : World) (hA0 : ArgT w 1 intc A cap fs) (hn : fs.length ≤ 9223372036854775807) : Calls Tryz.prog 41 #[.slice A fs.length cap] w fun e w' => (okP fs ∧ ∃ x F, e = .returned (.tuple #[pt x, nt 0]) ∧ DLd F w' x (newX fs 10) [] ∧ Keep none_ w w' ∧ (∀ q, F q → w.heap.size ≤ q)) ∨ (¬ okP fs ∧ e = .returned (.tuple #[.pointer none, nt 1]) ∧ Keep none_ w w') := by
 have hA := hA0
 have hK0 := Keep.refl none_ w
 refine eV ?_
 refine Vr <| On 2 [0] <| Oe <| V_seq <| Vn [0, 9] <| Vi ((fs.length : Int) > 10) (fun hc1 => ?_) (fun hc1 => ?_)
 ·
  refine Vs [(2, .pointer none),(3, nt 1)] <| Rt ?_
  exact X_return _ rfl (.inr ⟨fun h => by have := h.1; omega, rfl, hK0⟩)
 refine Vsk <| Vr <| OI_make (E := 138) (sz := 3) (by_ := 40) (m := 10) (kd := .i64) (zv := .agg #[nt 0, nt 0, .slice none 0 0]) 133 (.const (Value.int IntKind.i64 10)) (.const (Value.int IntKind.i64 10)) ((List.replicate 10 [nt 0, nt 0, .slice none 0 0]).flatten) (some 10) (by kernel_rfl) (by kernel_rfl) (by kernel_rfl) (by kernel_rfl) (by kernel_rfl) (by decide) (by decide) (by kernel_rfl) ?_
 intro b2 w2 e2 hb2 k2 z2
 have hsz3 := Keep.size k2
 replace hA := ArgT.keep0 hA k2
 replace hK0 := hK0.tn k2
 have hb2lt := hb2.lt
 refine On 2 [0, 11] <| Bx 135 [sl_ b2 0 10 10] ?_
 intro b4 w4 e4 hb4 k4 z4
 have hsz5 := Keep.size k4
 replace hb2 := hb2.k0 k4
 replace hA := ArgT.keep0 hA k4
 replace hK0 := hK0.tn k4
 have hb4lt := hb4.lt
 refine On 4 [0, 4] <| Oer <| On 1 [0, 4, 5] <| Oe <| V_seq <| Vn [0, 4, 5, 6] <| V_block <| Vp [(0, .slice A fs.length cap),(4, pt b4),(5, nt 0),(6, nt 0)] <| V_loop (fun k wI e => ∃ i : Nat, ∃ A2 : Option Addr, ∃ ds : List DE, ∃ s : Int, (k + i = fs.length) ∧ (ds = dsN fs i) ∧ (Blk wI b4 [.slice A2 ds.length 10] 135) ∧ (SlT wI 3 DE.cells A2 10 ds) ∧ (∀ q, inA A2 q → w.heap.size ≤ q ∧ q ≠ b4) ∧ (∀ q, inA A2 q → q = b2) ∧ (s = sumI (fs.take i)) ∧ (∀ y ∈ fs.take i, 0 ≤ y ∧ y ≤ 1073741824) ∧ Keep (fun q => (only b2) q ∨ (only b4) q) w4 wI ∧ e = [(0, .slice A fs.length cap),(4, pt b4),(5, nt s),(6, nt (i : Int))]) fs.length ⟨0, (some ⟨b2, 0, none⟩), dsN fs 0, 0, by omega, rfl, hb4, slt_blk (xs := dsN fs 0) hb2 DE.len rfl, (fun q h => by have h3 := inA_some h; omega),(fun q h => inA_some h), rfl, fun y hy => by simp at hy, Keep.refl _ _, rfl⟩ ?_
 rintro k7 w6 _ ⟨i, A2, ds, s, hki, hds, hxb, hA2, ow2, hrA, hs, hok, hk8, rfl⟩
 have hsz9 := Keep.size hk8
 replace hA := ArgT.keep hA hk8 hA0 (fun k hk hs => by rcases hs with hs | hs; (have u0 : k = b2 := hs; omega); (have u0 : k = b4 := hs; omega))
 replace hK0 := Keep.fresh hK0 hk8 (by intro i hi hs; first | exact hs | (rcases hs with hs | hs; (have u0 : i = b2 := hs; omega); (have u0 : i = b4 := hs; omega)))
 have hzhk8 := Keep.size hk8
 have hb4lt := hxb.lt
 have lt2 := SlT.lt hA2
 have hdl : ds.length = 10 := by rw [hds, dsN_len]
 have hsb := sum_bnd _ hok; rw [List.length_take, ← hs] at hsb
 refine V_seq <| Vn [0, 4, 5, 6, 16] <| Vi ((i : Int) < (fs.length : Int)) (fun hc10 => ?_) (fun hc10 => ?_)
 ·
  refine Vsk <| V_seq <| V_block <| V_seq <| Vr <| On 2 [0, 4, 5, 6, 19, 20] ?_
  obtain ⟨b11, o11, L11, rfl, hat11⟩ := ArgT.open_ hA (by first | omega | (simp only [List.length_map]; omega) | (simp; done) | (simp; omega))
  have hb11lt0 := ArgT.lt hA0 (by first | omega | (simp only [List.length_map]; omega) | (simp; done) | (simp; omega))
  have hb11lt := hat11.blk.lt
  refine Oi (b := b11) (o := o11) (len := fs.length) (cap := cap) (j := i) (some 21) 28 (.tmp 19) (.tmp 20) 3 1 8 .i64 ?_
  obtain ⟨x12, hx13⟩ := exAt (xs := fs) (i := i)
  obtain ⟨hts, htl⟩ : fs.take (i + 1) = fs.take i ++ [x12] ∧ True := ⟨by obtain ⟨h1, h2⟩ := List.getElem?_eq_some_iff.1 hx13; rw [List.take_succ_eq_append_getElem h1, h2], trivial⟩
  refine OI_cellR 3 (.tmp 21) (o11 + i * 1) (nt x12) (some 22) (by kernel_rfl) (by kernel_rfl) hat11.blk (m := 1) (by kernel_rfl) (AtR.cell0 hat11 (es_at hx13) rfl) <| On 6 [0, 4, 5, 6, 24] ?_
  by_cases hg14 : x12 < 0
  ·
   refine Dt 24 hg14 <| Oen [0, 4, 5, 6, 25, 26, 27, 28, 29, 30] <| Vo <| Vs [(2, .pointer none),(3, nt 1)] <| Rt <| X_ret_block <| X_ret_then <| X_ret_then <| X_ret_block <| X_ret_then ?_
   exact X_return _ rfl (.inr ⟨fun h => by have h9 := h.2.1 _ (List.mem_of_getElem? hx13); omega, rfl, hK0⟩)
  refine Df 24 hg14 <| On 8 [0, 4, 5, 6, 24, 25, 26] <| Oi (b := b11) (o := o11) (len := fs.length) (cap := cap) (j := i) (some 27) 28 (.tmp 25) (.tmp 26) 3 1 8 .i64 <| OI_cellR 3 (.tmp 27) (o11 + i * 1) (nt x12) (some 28) (by kernel_rfl) (by kernel_rfl) hat11.blk (m := 1) (by kernel_rfl) (AtR.cell0 hat11 (es_at hx13) rfl) <| Oen [0, 4, 5, 6, 25, 26, 27, 28, 29, 30] <| Vi (x12 > 1073741824) (fun hc15 => ?_) (fun hc15 => ?_)
  ·
   refine Vs [(2, .pointer none),(3, nt 1)] <| Rt <| X_ret_block <| X_ret_then <| X_ret_then <| X_ret_block <| X_ret_then ?_
   exact X_return _ rfl (.inr ⟨fun h => by have h9 := h.2.1 _ (List.mem_of_getElem? hx13); omega, rfl, hK0⟩)
  refine Vsk <| V_seq ?_
  have h10 : 0 < ds.length := by omega
  obtain ⟨b16, o16, L16, T16, rfl, hat16⟩ := SlT.opn hA2
  have hb16lt := hat16.blk.lt
  have hob17 := ow2 b16 ⟨_, rfl, rfl⟩
  have hob18 := lt2 b16 ⟨_, rfl, rfl⟩
  have hbA : b16 = b2 := hrA _ ⟨_, rfl, rfl⟩
  refine V_draws (acts [11]) (only b16) [[0, 1, 2, 3, 4, 5, 6, 7, 8, 9, 10, 11]] (by kernel_rfl) (by repeat first | exact sure_body (by first | (rintro _ _ (⟨_, _, _, h, _⟩ | ⟨_, h, _⟩) <;> exact ⟨_, h⟩)) | refine sure_then ?_ | refine sure_block ?_ | refine sure_join ?_) (by kernel_rfl) ?_
  intro w20 hk19 he21 L hL22
  have hsz23 := Keep.size hk19
  replace hxb := hxb.k0 hk19
  replace hat11 := hat11.keep hk19 id
  replace hat16 := hat16.keep hk19 id
  replace hk8 := hk8.tn hk19
  have qhxb := hxb
  have qhat11 := hat11
  have K24 : Keep (only b16) w20 w20 := Keep.refl _ _
  obtain rfl := List.mem_singleton.1 hL22
  refine Gn [3, 4, 5, 6, 7, 8, 9, 10, 11] [0, 4, 5, 6, 25, 26, 27, 28, 29, 33] <| Mc 0 (sl_ b16 o16 ds.length 10) qhxb (by show ¬ (_ = _); omega) rfl <| Gs [7, 8, 9, 10, 11] [(0, sl_ b11 o11 fs.length cap),(4, pt b4),(5, nt s),(6, nt (i : Int)),(25, sl_ b11 o11 fs.length cap),(26, nt (i : Int)),(27, .pointer (some ⟨b11, o11 + i * 1, none⟩)),(28, nt x12),(29, .bool (decide (x12 > 1073741824))),(34, sl_ b16 o16 ds.length 10),(35, nt (i : Int)),(36, sl_ b11 o11 fs.length cap),(37, nt (i : Int))] <| Gi (b := b11) (o := o11) (len := fs.length) (cap := cap) (j := i) 3 1 8 .i64 <| GI_cellR 3 (.tmp 38) (o11 + i * 1) (nt x12) (some 39) (by kernel_rfl) (by kernel_rfl) (by kernel_rfl) qhat11.blk (by show ¬ (_ = _); omega) (m := 1) (by kernel_rfl) (AtR.cell0 qhat11 (es_at hx13) rfl) <| Gi (b := b16) (o := o16) (len := ds.length) (cap := 10) (j := i) 138 3 40 .i64 <| Gn [11] [0, 4, 5, 6, 25, 26, 27, 28, 29, 39, 41] <| GI_final 11 (by kernel_rfl) (by kernel_rfl) ?_
  obtain ⟨x25, hx26⟩ := exAt (xs := ds) (i := i)
  obtain ⟨_, hde⟩ := dsN_at (by rw [← hds]; exact hx26)
  rw [if_neg (by omega)] at hde
  subst hde
  refine Ts1 (DE.mk x12 0 none 0 [] : DE) 0 (nt x12) hat16 hx26 (by simp [DE.cells, over]) ?_
  intro w27 hat31 hk29 hz30 hlhx32 hx32
  have hsz33 := Keep.size hk29
  replace hxb := hxb.k1 hk29
  replace hat11 := hat11.keep hk29 (by show ¬ (_ = _); omega)
  replace hk8 := Keep.fresh hk8 hk29 (by intro i hi hs; exact .inl (by show i = _; rw [show i = b16 from hs]; exact hbA))
  refine Oe <| V_region <| On 3 [0, 4, 6, 25, 26, 27, 28, 29, 42, 43, 44] <| Oi (b := b11) (o := o11) (len := fs.length) (cap := cap) (j := i) (some 45) 28 (.tmp 43) (.tmp 44) 3 1 8 .i64 <| OI_cellR 3 (.tmp 45) (o11 + i * 1) (nt x12) (some 46) (by kernel_rfl) (by kernel_rfl) hat11.blk (m := 1) (by kernel_rfl) (AtR.cell0 hat11 (es_at hx13) rfl) ?_
  have hw34 : i64.wrap (s + x12) = s + x12 := wrp
  refine On 6 [0, 4, 6, 25, 26, 27, 28, 29, 47] <| Oq (u := nt (i64.wrap (s + x12))) (v := nt (s + x12)) 47 (by rw [hw34]) <| On 7 [0, 4, 5, 6, 25, 26, 27, 28, 29] <| OI_end rfl <| X_block <| X_then <| V_region ?_
  have hw35 : i64.wrap ((i : Int) + 1) = ((i + 1 : Nat) : Int) := wrp
  refine On 2 [0, 4, 5, 18, 25, 26, 27, 28, 29] <| Oq (u := nt (i64.wrap ((i : Int) + 1))) (v := nt ((i + 1 : Nat) : Int)) 18 (by rw [hw35]) <| Os 3 [(0, sl_ b11 o11 fs.length cap),(4, pt b4),(5, nt (s + x12)),(6, nt ((i + 1 : Nat) : Int)),(25, sl_ b11 o11 fs.length cap),(26, nt (i : Int)),(27, .pointer (some ⟨b11, o11 + i * 1, none⟩)),(28, nt x12),(29, .bool (decide (x12 > 1073741824)))] <| OI_end rfl ?_
  exact V_again (k7 - 1) (by omega) [(0, sl_ b11 o11 fs.length cap),(4, pt b4),(5, nt (s + x12)),(6, nt ((i + 1 : Nat) : Int))] rfl ⟨i + 1, (some ⟨b16, o16, none⟩), ds.set i (DE.mk x12 0 none 0 []), s + x12, by omega, by rw [hds, dsN_step hx13], by simp only [List.length_set]; exact hxb, At.slt hat31, (fun q h => by have h3 := inA_some h; omega),(fun q h => by have h3 := inA_some h; omega), by rw [hts, sumI_app, ← hs], fun y hy => by rw [hts] at hy; rcases List.mem_append.1 hy with h | h; exact hok y h; (rw [List.mem_singleton.1 h]; omega), hk8, rfl⟩
 refine V_exit <| X_exit_then <| X_exit_then <| X_exit_here <| X_then <| V_seq <| Vn [4, 49] <| Vi (s > 1073741824) (fun hc36 => ?_) (fun hc36 => ?_)
 ·
  refine Vs [(2, .pointer none),(3, nt 1)] <| Rt ?_
  have hie : i = fs.length := by omega
  rw [hie, List.take_length] at hs
  exact X_return _ rfl (.inr ⟨fun h => by have h9 := h.2.2; rw [tot_new 10 fs (by omega)] at h9; omega, rfl, hK0⟩)
 refine Vsk <| Vs [(2, pt b4),(3, nt 0)] <| V_ret ?_
 have hie : i = fs.length := by omega
 rw [hie, List.take_length] at hs hok
 rw [hie] at hds
 have hokp : okP fs := ⟨by omega, hok, by rw [tot_new 10 fs (by omega)]; omega⟩
 exact X_return _ rfl (.inl ⟨hokp, b4, (fun q => inA A2 q ∨ q = b4), rfl, ⟨newX_inv hokp, okC_nil, .inr rfl, fun q hq => by rcases hq with h | h; (have h1 := lt2 q h; omega); omega, A2, 10, ds, ⟨hxb, hA2, fun q hq => ⟨.inl hq, (ow2 q hq).2⟩, by rw [hds]; exact dsN_acc (by omega), fun j d hd => by rw [hds] at hd; obtain ⟨_, rfl⟩ := dsN_at hd; exact ⟨rfl, SlT.nil _ _ _, fun q hq => (inA_none hq).elim⟩⟩⟩, hK0, fun q hq => by rcases hq with h | h; (have h1 := ow2 q h; omega); omega⟩)
end Go.Al
namespace Go.Al
open Go Go.RowKit Go.Proofs
structure PlX (B F G H I : Nat → Prop) (w : World) (b v l x y : Nat) (s : VS) (xs : List Acc) (cs : List Ci) (now : Int) : Prop where
  blk : Blk w b [pt l, pt v, pt x, pt y, nt now] 35
  hv : VotT F w v s
  hl : Led G w l xs cs
  hx : DLd H w x xs cs
  hy : DVt I w y s
  inF : ∀ q, F q → B q ∧ q ≠ b
  inG : ∀ q, G q → B q ∧ q ≠ b
  inH : ∀ q, H q → B q ∧ q ≠ b
  inI : ∀ q, I q → B q ∧ q ≠ b
  fg : ∀ q, F q → ¬ G q
  fh : ∀ q, F q → ¬ H q
  fi : ∀ q, F q → ¬ I q
  gh : ∀ q, G q → ¬ H q
  gi : ∀ q, G q → ¬ I q
  hi : ∀ q, H q → ¬ I q
def Pl (B : Nat → Prop) (w : World) (b : Nat) (s : VS) (xs : List Acc) (cs : List Ci) (now : Int) : Prop := (∀ q, B q → q < w.heap.size) ∧ B b ∧ ∃ F G H I v l x y, PlX B F G H I w b v l x y s xs cs now
section
variable {B S : Nat → Prop} {w w' : World} {b N : Nat} {s : VS} {xs : List Acc} {cs : List Ci} {now : Int}
theorem Pl.lt (h : Pl B w b s xs cs now) : ∀ q, B q → q < w.heap.size := h.1
theorem Pl.at_ (h : Pl B w b s xs cs now) : B b := h.2.1
theorem Pl.keep (h : Pl B w b s xs cs now) (k : Keep S w w') (hS : ∀ q, B q → ¬ S q) : Pl B w' b s xs cs now := by
  obtain ⟨h1, h2, F, G, H, I, v, l, x, y, h⟩ := h
  exact ⟨fun q hq => Nat.lt_of_lt_of_le (h1 q hq) k.size, h2, F, G, H, I, v, l, x, y, { h with blk := h.blk.keep k (hS _ h2), hv := h.hv.keep k (fun q hq => hS q (h.inF q hq).1), hl := h.hl.keep k (fun q hq => hS q (h.inG q hq).1), hx := h.hx.keep k (fun q hq => hS q (h.inH q hq).1), hy := h.hy.keep k (fun q hq => hS q (h.inI q hq).1) }⟩
theorem Pl.quiet (h : Pl B w b s xs cs now) (k : Keep (lb N w) w w') : Pl B w' b s xs cs now := by
  obtain ⟨h1, h2, F, G, H, I, v, l, x, y, h⟩ := h
  exact ⟨fun q hq => Nat.lt_of_lt_of_le (h1 q hq) k.size, h2, F, G, H, I, v, l, x, y, { h with blk := h.blk.quiet k, hv := h.hv.quiet k, hl := h.hl.quiet k, hx := h.hx.quiet k, hy := h.hy.quiet k }⟩
end
theorem new6_yes (A : Option Addr) (cap : Nat) (fs : List Int) (w : World) (hA : ArgT w 1 intc A cap fs) (hn : fs.length ≤ 100000) (hok : okP fs) : Calls Tryz.prog 41 #[.slice A fs.length cap] w fun e w' => ∃ x F, e = .returned (.tuple #[pt x, nt 0]) ∧ DLd F w' x (newX fs 10) [] ∧ Keep none_ w w' ∧ (∀ q, F q → w.heap.size ≤ q) :=
  (new6_spec A cap fs w hA (by omega)).mono (by
    rintro e w' (⟨_, h⟩ | ⟨h, _⟩)
    · exact h
    · exact absurd hok h)
theorem PlX.pack {B F G H I : Nat → Prop} {w : World} {N b v l x y : Nat} {s : VS} {xs : List Acc} {cs : List Ci} {now : Int} (hb : Blk w b [pt l, pt v, pt x, pt y, nt now] 35)
    (hv : VotT F w v s) (hl : Led G w l xs cs) (hx : DLd H w x xs cs) (hy : DVt I w y s) (fg : ∀ q, F q → ¬ G q) (fh : ∀ q, F q → ¬ H q) (fi : ∀ q, F q → ¬ I q) (gh : ∀ q, G q → ¬ H q) (gi : ∀ q, G q → ¬ I q) (hi : ∀ q, H q → ¬ I q)
    (oF : ∀ q, F q → q ≠ b) (oG : ∀ q, G q → q ≠ b) (oH : ∀ q, H q → q ≠ b) (oI : ∀ q, I q → q ≠ b) (hB : B b) (rF : ∀ q, F q → B q ∨ N ≤ q) (rG : ∀ q, G q → B q ∨ N ≤ q) (rH : ∀ q, H q → B q ∨ N ≤ q) (rI : ∀ q, I q → B q ∨ N ≤ q) :
    ∃ B', Pl B' w b s xs cs now ∧ ∀ q, B' q → B q ∨ N ≤ q := by
  refine ⟨fun q => q = b ∨ F q ∨ G q ∨ H q ∨ I q, ⟨?_, .inl rfl, F, G, H, I, v, l, x, y, hb, hv, hl, hx, hy, fun q h => ⟨.inr (.inl h), oF q h⟩, fun q h => ⟨.inr (.inr (.inl h)), oG q h⟩, fun q h => ⟨.inr (.inr (.inr (.inl h))), oH q h⟩, fun q h => ⟨.inr (.inr (.inr (.inr h))), oI q h⟩, fg, fh, fi, gh, gi, hi⟩, ?_⟩
  · rintro q (rfl | h | h | h | h)
    · exact hb.lt
    · exact hv.lt q h
    · exact hl.lt q h
    · exact hx.lt q h
    · exact hy.lt q h
  · rintro q (rfl | h | h | h | h)
    · exact .inl hB
    · exact rF q h
    · exact rG q h
    · exact rH q h
    · exact rI q h
theorem begin_pl (A : Option Addr) (cap : Nat) (fs : List Int) (w : World) (hA0 : ArgT w 1 intc A cap fs) (hn : fs.length ≤ 9223372036854775807) : Calls Tryz.prog 15 #[.slice A fs.length cap] w fun e w' => ∃ b B, e = .returned (pt b) ∧ Pl B w' b VS.zero (newX (msk24 (fs.take 10)) 10) [] 0 ∧ Keep none_ w w' ∧ (∀ q, B q → w.heap.size ≤ q) := by
 have hA := hA0
 have hK0 := Keep.refl none_ w
 refine eV ?_
 refine Vr <| On 1 [0] <| Oer <| On 1 [0, 3] <| Oe <| V_seq <| Vn [0, 3, 4] <| V_block <| Vp [(0, .slice A fs.length cap),(3, .slice none 0 0),(4, nt 0)] <| V_loop (fun k wI e => ∃ i : Nat, ∃ A2 : Option Addr, ∃ cap2 : Nat, ∃ ms : List Int, (k + i = min fs.length 10) ∧ (ms = msk24 (fs.take i)) ∧ (SlT wI 1 intc A2 cap2 ms) ∧ (∀ q, inA A2 q → w.heap.size ≤ q) ∧ Keep none_ w wI ∧ e = [(0, .slice A fs.length cap),(3, .slice A2 ms.length cap2),(4, nt (i : Int))]) (min fs.length 10) ⟨0, none, 0, [], by omega, rfl, SlT.nil _ _ _, fun q h => (inA_none h).elim, Keep.refl _ _, rfl⟩ ?_
 rintro k2 w1 _ ⟨i, A2, cap2, ms, hki, hms, hA2, ow2, hk3, rfl⟩
 have hsz4 := Keep.size hk3
 replace hA := ArgT.keep0 hA hk3
 replace hK0 := hK0.tn hk3
 have hzhk3 := Keep.size hk3
 have lt2 := SlT.lt hA2
 have hml : ms.length = i := by rw [hms]; simp [msk24]; omega
 refine V_seq <| Vr <| On 5 [0, 3, 4, 14] ?_
 by_cases hg5 : (i : Int) < (fs.length : Int)
 ·
  refine Dt 14 hg5 <| Oen [0, 3, 4, 15, 16, 17] <| Vi ((i : Int) < 10) (fun hc6 => ?_) (fun hc6 => ?_)
  ·
   refine Vsk <| V_seq <| V_block <| V_region <| On 3 [0, 4, 15, 16, 20, 21, 22] ?_
   obtain ⟨b7, o7, L7, rfl, hat7⟩ := ArgT.open_ hA (by first | omega | (simp only [List.length_map]; omega) | (simp; done) | (simp; omega))
   have hb7lt0 := ArgT.lt hA0 (by first | omega | (simp only [List.length_map]; omega) | (simp; done) | (simp; omega))
   have hb7lt := hat7.blk.lt
   refine Oi (b := b7) (o := o7) (len := fs.length) (cap := cap) (j := i) (some 23) 28 (.tmp 21) (.tmp 22) 3 1 8 .i64 ?_
   obtain ⟨x8, hx9⟩ := exAt (xs := fs) (i := i)
   refine OI_cellR 3 (.tmp 23) (o7 + i * 1) (nt x8) (some 24) (by kernel_rfl) (by kernel_rfl) hat7.blk (m := 1) (by kernel_rfl) (AtR.cell0 hat7 (es_at hx9) rfl) <| On 6 [0, 4, 15, 16, 20, 25] <| OI_slit (E := 3) (zv := nt 0) (sz := 1) (by_ := 8) 28 1 #[(0, (Operand.tmp 25))] [nt (bAnd x8 16777215)] [nt (bAnd x8 16777215)] (some 26) (by kernel_rfl) (by kernel_rfl) (by kernel_rfl) (by omega) rfl (by omega) (by intro v hv; simp only [List.mem_cons, List.not_mem_nil, or_false] at hv; rcases hv with rfl <;> rfl) (by kernel_rfl) rfl ?_
   intro b10 w10 e10 hb10 k10 z10
   have hsz11 := Keep.size k10
   replace hA2 := hA2.keep0 k10
   replace hk3 := hk3.tn k10
   have hb10lt := hb10.lt
   refine OI_append (t := 28) (at2 := 28) (E := 3) (E2 := 3) (sz := 1) (by_ := 8) (zv := nt 0) (m := ms.length) (k := 1) (.tmp 20) (.tmp 26) (.slice A2 ms.length cap2) (sl_ b10 0 1 1) (some 27) (by kernel_rfl) (by kernel_rfl) (by kernel_rfl) (by kernel_rfl) (by kernel_rfl) (by kernel_rfl) (by kernel_rfl) (SlT.slr hA2) (slr_one hb10 (intc_len (bAnd x8 16777215))) (intc_one (bAnd x8 16777215)) (by first | omega | (simp only [List.length_nil]; omega)) (by omega) (by first | omega | (simp only [List.length_nil]; omega)) (by omega) ?_
   intro vv9 w12 hap
   obtain ⟨A12, cap12, rfl, hA12, hk12, own12x⟩ := app_one (f := intc) (xs := ms) (x := (bAnd x8 16777215)) (A := A2) (cap := cap2) hap (fun x _ => intc_len x) (intc_len _)
   have own12 : ∀ q, inA A12 q → w.heap.size ≤ q := fun q hq => by rcases own12x q hq with h | h; exact ow2 q h; (show w.heap.size ≤ q; omega)
   have hsz13 := Keep.size hk12
   replace hk3 := Keep.fresh hk3 hk12 (by intro i hi hs; first | exact hs | (exfalso; have h1 := ow2 i hs; have h2 := lt2 i hs; omega) | (have h1 := ow2 i hs; have h2 := lt2 i hs; show _ ∨ _; omega))
   have lt12 := SlT.lt hA12
   refine On 9 [0, 3, 4, 15, 16] <| OI_end rfl <| X_block <| X_then <| V_region ?_
   have hw14 : i64.wrap ((i : Int) + 1) = ((i + 1 : Nat) : Int) := wrp
   refine On 2 [0, 3, 15, 16, 19] <| Oq (u := nt (i64.wrap ((i : Int) + 1))) (v := nt ((i + 1 : Nat) : Int)) 19 (by rw [hw14]) <| Os 3 [(0, sl_ b7 o7 fs.length cap),(3, .slice A12 ((ms ++ [bAnd x8 16777215]).length) cap12),(4, nt ((i + 1 : Nat) : Int)),(15, nt (i : Int)),(16, .bool (decide ((i : Int) < 10)))] <| OI_end rfl ?_
   exact V_again (k2 - 1) (by omega) [(0, sl_ b7 o7 fs.length cap),(3, .slice A12 ((ms ++ [bAnd x8 16777215]).length) cap12),(4, nt ((i + 1 : Nat) : Int))] rfl ⟨i + 1, A12, cap12, ms ++ [bAnd x8 16777215], by omega, by rw [msk24_step hx9, ← hms], hA12, own12, hk3, rfl⟩
  refine V_exit <| X_exit_then <| X_exit_then <| X_exit_here <| X_then <| Vr <| On 1 [3, 29] ?_
  have hie : i = min fs.length 10 := by omega
  have htk : fs.take i = fs.take 10 := by rw [hie]; rcases Nat.le_total fs.length 10 with h9 | h9; (rw [Nat.min_eq_left h9, List.take_length, List.take_of_length_le h9]); rw [Nat.min_eq_right h9]
  rw [htk] at hms
  have hok9 := msk24_ok (fs := fs.take 10) (by rw [List.length_take]; omega)
  rw [← hms] at hok9
  refine Kg (new_ok A2 cap2 ms _ (SlT.arg hA2) (by omega) hok9) ?_
  rintro _ w17 ⟨l19, F20, rfl, ho21, hk18, hge22⟩
  refine ⟨_, rfl, ?_⟩
  have hsz23 := Keep.size hk18
  replace hA2 := hA2.keep0 hk18
  replace hK0 := hK0.tn hk18
  have own24 : ∀ q, F20 q → w1.heap.size ≤ q := fun q hq => by have h1 := hge22 q hq; omega
  have lt25 := Led.lt ho21
  have dis26 : ∀ q, F20 q → ¬ inA A2 q := fun q h1 h2 => by have h3 := hge22 q h1; have h4 := lt2 q h2; omega
  have hl19lt : l19 < w17.heap.size := Led.lt ho21 _ (Led.at_ ho21)
  have hl19ge := hge22 _ (Led.at_ ho21)
  refine On 7 [3, 5, 6] <| Oer <| On 1 [5, 6, 34] <| Kg (new6_yes A2 cap2 ms _ (SlT.arg hA2) (by omega) hok9) ?_
  rintro _ w27 ⟨x29, F30, rfl, ho31, hk28, hge32⟩
  refine ⟨_, rfl, ?_⟩
  have hsz33 := Keep.size hk28
  replace hK0 := hK0.tn hk28
  replace ho21 := ho21.keep hk28 nk
  have own34 : ∀ q, F30 q → w17.heap.size ≤ q := fun q hq => by have h1 := hge32 q hq; omega
  have lt35 := DLd.lt ho31
  have dis36 : ∀ q, F30 q → ¬ inA A2 q := fun q h1 h2 => by have h3 := hge32 q h1; have h4 := lt2 q h2; omega
  have dis37 : ∀ q, F30 q → ¬ F20 q := fun q h1 h2 => by have h3 := hge32 q h1; have h4 := lt25 q h2; omega
  have hx29lt : x29 < w27.heap.size := DLd.lt ho31 _ (DLd.at_ ho31)
  have hx29ge := hge32 _ (DLd.at_ ho31)
  refine On 7 [5, 6, 7] <| Oer <| On 1 [5, 6, 7, 38] <| Kg (new_votT _) ?_
  rintro _ w42 ⟨g44, F45, rfl, ho46, hk43, hge47⟩
  refine ⟨_, rfl, ?_⟩
  have hsz48 := Keep.size hk43
  replace hK0 := hK0.tn hk43
  replace ho21 := ho21.keep hk43 nk
  replace ho31 := DLd.keep ho31 hk43 nk
  have own49 : ∀ q, F45 q → w27.heap.size ≤ q := fun q hq => by have h1 := hge47 q hq; omega
  have lt50 := VotT.lt ho46
  have dis51 : ∀ q, F45 q → ¬ inA A2 q := fun q h1 h2 => by have h3 := hge47 q h1; have h4 := lt2 q h2; omega
  have dis52 : ∀ q, F45 q → ¬ F20 q := fun q h1 h2 => by have h3 := hge47 q h1; have h4 := lt25 q h2; omega
  have dis53 : ∀ q, F45 q → ¬ F30 q := fun q h1 h2 => by have h3 := hge47 q h1; have h4 := lt35 q h2; omega
  have hg44lt : g44 < w42.heap.size := VotT.lt ho46 _ (VotT.at_ ho46)
  have hg44ge := hge47 _ (VotT.at_ ho46)
  refine On 3 [5, 6, 38, 39, 40] <| Kg (dnew_spec _) ?_
  rintro _ w56 ⟨g58, F59, rfl, ho60, hk57, hge61⟩
  refine ⟨_, rfl, ?_⟩
  have hsz62 := Keep.size hk57
  replace hK0 := hK0.tn hk57
  replace ho21 := ho21.keep hk57 nk
  replace ho31 := DLd.keep ho31 hk57 nk
  replace ho46 := ho46.keep hk57 nk
  have own63 : ∀ q, F59 q → w42.heap.size ≤ q := fun q hq => by have h1 := hge61 q hq; omega
  have lt64 := DVt.lt ho60
  have dis65 : ∀ q, F59 q → ¬ inA A2 q := fun q h1 h2 => by have h3 := hge61 q h1; have h4 := lt2 q h2; omega
  have dis66 : ∀ q, F59 q → ¬ F20 q := fun q h1 h2 => by have h3 := hge61 q h1; have h4 := lt25 q h2; omega
  have dis67 : ∀ q, F59 q → ¬ F30 q := fun q h1 h2 => by have h3 := hge61 q h1; have h4 := lt35 q h2; omega
  have dis68 : ∀ q, F59 q → ¬ F45 q := fun q h1 h2 => by have h3 := hge61 q h1; have h4 := lt50 q h2; omega
  have hg58lt : g58 < w56.heap.size := DVt.lt ho60 _ (DVt.at_ ho60)
  have hg58ge := hge61 _ (DVt.at_ ho60)
  refine On 5 [5, 6, 42] <| Bx 35 [pt l19, pt g44, pt x29, pt g58, nt 0] ?_
  intro b69 w69 e69 hb69 k69 z69
  have hsz70 := Keep.size k69
  replace hK0 := hK0.tn k69
  replace ho21 := ho21.keep k69 nk
  replace ho31 := DLd.keep ho31 k69 nk
  replace ho46 := ho46.keep k69 nk
  replace ho60 := DVt.keep ho60 k69 nk
  have hb69lt := hb69.lt
  refine On 7 [5, 6, 9] <| Oe <| V_seq <| Vr <| On 10 [9, 50, 53] <| Lr 1 (pt g44) hb69 <| Oen [9, 56] <| Vf <| Vsk <| Vs [(2, pt b69)] <| V_ret ?_
  rw [hms] at ho21 ho31
  exact X_return _ rfl ⟨b69, (fun q => q = b69 ∨ F45 q ∨ F20 q ∨ F30 q ∨ F59 q), rfl, ⟨fun q hq => by rcases hq with h | h | h | h | h; omega; (have h1 := lt50 q h; omega); (have h1 := lt25 q h; omega); (have h1 := lt35 q h; omega); (have h1 := lt64 q h; omega), .inl rfl, F45, F20, F30, F59, g44, l19, x29, g58, ⟨hb69, ho46, ho21, ho31, ho60, fun q hq => ⟨.inr (.inl hq), by have h1 := own49 q hq; have h2 := lt50 q hq; omega⟩, fun q hq => ⟨.inr (.inr (.inl hq)), by have h1 := own24 q hq; have h2 := lt25 q hq; omega⟩, fun q hq => ⟨.inr (.inr (.inr (.inl hq))), by have h1 := own34 q hq; have h2 := lt35 q hq; omega⟩, fun q hq => ⟨.inr (.inr (.inr (.inr hq))), by have h1 := own63 q hq; have h2 := lt64 q hq; omega⟩, dis52, dis53, (fun q h1 h2 => dis68 q h2 h1),(fun q h1 h2 => dis37 q h2 h1),(fun q h1 h2 => dis66 q h2 h1),(fun q h1 h2 => dis67 q h2 h1)⟩⟩, hK0, fun q hq => by rcases hq with h | h | h | h | h; omega; (have h1 := own49 q h; omega); (have h1 := own24 q h; omega); (have h1 := own34 q h; omega); (have h1 := own63 q h; omega)⟩
 refine Df 14 hg5 <| Oen [0, 3, 4, 15, 16, 17] <| Vf <| V_exit <| X_exit_then <| X_exit_then <| X_exit_here <| X_then <| Vr <| On 1 [3, 29] ?_
 have hie : i = min fs.length 10 := by omega
 have htk : fs.take i = fs.take 10 := by rw [hie]; rcases Nat.le_total fs.length 10 with h9 | h9; (rw [Nat.min_eq_left h9, List.take_length, List.take_of_length_le h9]); rw [Nat.min_eq_right h9]
 rw [htk] at hms
 have hok9 := msk24_ok (fs := fs.take 10) (by rw [List.length_take]; omega)
 rw [← hms] at hok9
 refine Kg (new_ok A2 cap2 ms _ (SlT.arg hA2) (by omega) hok9) ?_
 rintro _ w73 ⟨l75, F76, rfl, ho77, hk74, hge78⟩
 refine ⟨_, rfl, ?_⟩
 have hsz79 := Keep.size hk74
 replace hA2 := hA2.keep0 hk74
 replace hK0 := hK0.tn hk74
 have own80 : ∀ q, F76 q → w1.heap.size ≤ q := fun q hq => by have h1 := hge78 q hq; omega
 have lt81 := Led.lt ho77
 have dis82 : ∀ q, F76 q → ¬ inA A2 q := fun q h1 h2 => by have h3 := hge78 q h1; have h4 := lt2 q h2; omega
 have hl75lt : l75 < w73.heap.size := Led.lt ho77 _ (Led.at_ ho77)
 have hl75ge := hge78 _ (Led.at_ ho77)
 refine On 7 [3, 5, 6] <| Oer <| On 1 [5, 6, 34] <| Kg (new6_yes A2 cap2 ms _ (SlT.arg hA2) (by omega) hok9) ?_
 rintro _ w83 ⟨x85, F86, rfl, ho87, hk84, hge88⟩
 refine ⟨_, rfl, ?_⟩
 have hsz89 := Keep.size hk84
 replace hK0 := hK0.tn hk84
 replace ho77 := ho77.keep hk84 nk
 have own90 : ∀ q, F86 q → w73.heap.size ≤ q := fun q hq => by have h1 := hge88 q hq; omega
 have lt91 := DLd.lt ho87
 have dis92 : ∀ q, F86 q → ¬ inA A2 q := fun q h1 h2 => by have h3 := hge88 q h1; have h4 := lt2 q h2; omega
 have dis93 : ∀ q, F86 q → ¬ F76 q := fun q h1 h2 => by have h3 := hge88 q h1; have h4 := lt81 q h2; omega
 have hx85lt : x85 < w83.heap.size := DLd.lt ho87 _ (DLd.at_ ho87)
 have hx85ge := hge88 _ (DLd.at_ ho87)
 refine On 7 [5, 6, 7] <| Oer <| On 1 [5, 6, 7, 38] <| Kg (new_votT _) ?_
 rintro _ w98 ⟨g100, F101, rfl, ho102, hk99, hge103⟩
 refine ⟨_, rfl, ?_⟩
 have hsz104 := Keep.size hk99
 replace hK0 := hK0.tn hk99
 replace ho77 := ho77.keep hk99 nk
 replace ho87 := DLd.keep ho87 hk99 nk
 have own105 : ∀ q, F101 q → w83.heap.size ≤ q := fun q hq => by have h1 := hge103 q hq; omega
 have lt106 := VotT.lt ho102
 have dis107 : ∀ q, F101 q → ¬ inA A2 q := fun q h1 h2 => by have h3 := hge103 q h1; have h4 := lt2 q h2; omega
 have dis108 : ∀ q, F101 q → ¬ F76 q := fun q h1 h2 => by have h3 := hge103 q h1; have h4 := lt81 q h2; omega
 have dis109 : ∀ q, F101 q → ¬ F86 q := fun q h1 h2 => by have h3 := hge103 q h1; have h4 := lt91 q h2; omega
 have hg100lt : g100 < w98.heap.size := VotT.lt ho102 _ (VotT.at_ ho102)
 have hg100ge := hge103 _ (VotT.at_ ho102)
 refine On 3 [5, 6, 38, 39, 40] <| Kg (dnew_spec _) ?_
 rintro _ w112 ⟨g114, F115, rfl, ho116, hk113, hge117⟩
 refine ⟨_, rfl, ?_⟩
 have hsz118 := Keep.size hk113
 replace hK0 := hK0.tn hk113
 replace ho77 := ho77.keep hk113 nk
 replace ho87 := DLd.keep ho87 hk113 nk
 replace ho102 := ho102.keep hk113 nk
 have own119 : ∀ q, F115 q → w98.heap.size ≤ q := fun q hq => by have h1 := hge117 q hq; omega
 have lt120 := DVt.lt ho116
 have dis121 : ∀ q, F115 q → ¬ inA A2 q := fun q h1 h2 => by have h3 := hge117 q h1; have h4 := lt2 q h2; omega
 have dis122 : ∀ q, F115 q → ¬ F76 q := fun q h1 h2 => by have h3 := hge117 q h1; have h4 := lt81 q h2; omega
 have dis123 : ∀ q, F115 q → ¬ F86 q := fun q h1 h2 => by have h3 := hge117 q h1; have h4 := lt91 q h2; omega
 have dis124 : ∀ q, F115 q → ¬ F101 q := fun q h1 h2 => by have h3 := hge117 q h1; have h4 := lt106 q h2; omega
 have hg114lt : g114 < w112.heap.size := DVt.lt ho116 _ (DVt.at_ ho116)
 have hg114ge := hge117 _ (DVt.at_ ho116)
 refine On 5 [5, 6, 42] <| Bx 35 [pt l75, pt g100, pt x85, pt g114, nt 0] ?_
 intro b125 w125 e125 hb125 k125 z125
 have hsz126 := Keep.size k125
 replace hK0 := hK0.tn k125
 replace ho77 := ho77.keep k125 nk
 replace ho87 := DLd.keep ho87 k125 nk
 replace ho102 := ho102.keep k125 nk
 replace ho116 := DVt.keep ho116 k125 nk
 have hb125lt := hb125.lt
 refine On 7 [5, 6, 9] <| Oe <| V_seq <| Vr <| On 10 [9, 50, 53] <| Lr 1 (pt g100) hb125 <| Oen [9, 56] <| Vf <| Vsk <| Vs [(2, pt b125)] <| V_ret ?_
 rw [hms] at ho77 ho87
 exact X_return _ rfl ⟨b125, (fun q => q = b125 ∨ F101 q ∨ F76 q ∨ F86 q ∨ F115 q), rfl, ⟨fun q hq => by rcases hq with h | h | h | h | h; omega; (have h1 := lt106 q h; omega); (have h1 := lt81 q h; omega); (have h1 := lt91 q h; omega); (have h1 := lt120 q h; omega), .inl rfl, F101, F76, F86, F115, g100, l75, x85, g114, ⟨hb125, ho102, ho77, ho87, ho116, fun q hq => ⟨.inr (.inl hq), by have h1 := own105 q hq; have h2 := lt106 q hq; omega⟩, fun q hq => ⟨.inr (.inr (.inl hq)), by have h1 := own80 q hq; have h2 := lt81 q hq; omega⟩, fun q hq => ⟨.inr (.inr (.inr (.inl hq))), by have h1 := own90 q hq; have h2 := lt91 q hq; omega⟩, fun q hq => ⟨.inr (.inr (.inr (.inr hq))), by have h1 := own119 q hq; have h2 := lt120 q hq; omega⟩, dis108, dis109, (fun q h1 h2 => dis124 q h2 h1),(fun q h1 h2 => dis93 q h2 h1),(fun q h1 h2 => dis122 q h2 h1),(fun q h1 h2 => dis123 q h2 h1)⟩⟩, hK0, fun q hq => by rcases hq with h | h | h | h | h; omega; (have h1 := own105 q h; omega); (have h1 := own80 q h; omega); (have h1 := own90 q h; omega); (have h1 := own119 q h; omega)⟩
theorem begin_weak (A : Option Addr) (cap : Nat) (fs : List Int) (w : World) (hA0 : ArgT w 1 intc A cap fs) (hn : fs.length ≤ 9223372036854775807) : Calls Tryz.prog 15 #[.slice A fs.length cap] w fun e w' => ∃ b v l F G xv yv, e = .returned (pt b) ∧ Blk w' b [pt l, pt v, .pointer xv, .pointer yv, nt 0] 35 ∧ VotT F w' v VS.zero ∧ Led G w' l (newX (msk24 (fs.take 10)) 10) [] ∧ Keep none_ w w' ∧ w.heap.size ≤ b ∧ (∀ q, F q → w.heap.size ≤ q ∧ q ≠ b) ∧ (∀ q, G q → w.heap.size ≤ q ∧ q ≠ b) ∧ (∀ q, F q → ¬ G q) :=
  (begin_pl A cap fs w hA0 hn).mono (by
    rintro e w' ⟨b, B, rfl, ⟨hlt, hb, F, G, H, I, v, l, x, y, hp⟩, hk, hge⟩
    exact ⟨b, v, l, F, G, _, _, rfl, hp.blk, hp.hv, hp.hl, hk, hge b hb, fun q hq => ⟨hge q (hp.inF q hq).1, (hp.inF q hq).2⟩, fun q hq => ⟨hge q (hp.inG q hq).1, (hp.inG q hq).2⟩, hp.fg⟩)
end Go.Al
namespace Go.Al
open Go Go.RowKit Go.Proofs
theorem unlR_d (r : RecS) (now : Int) {d : Option DelS} (h : r.d = d) : (unlR r now).d = d := by
  unfold unlR
  split
  · exact h
  · exact h
theorem unlS_rc (s : VS) {who t : Int} (now : Int) (h : unlE who t = 0) : (unlS s who t now).rc who t = unlR (s.rc who t) now := by
  unfold unlS unlR
  split
  · rename_i h9
    rw [if_pos h9.2]; exact updR_self _ _ _ _
  · rename_i h9
    rw [if_neg (fun h8 => h9 ⟨h, h8⟩)]
set_option maxHeartbeats 1000000 in
theorem unlock_at (F G : Nat → Prop) (v l : Nat) (P : VP) (s : VS) (xs : List Acc) (cs : List Ci) (who t now : Int) (w : World) (h : Vot F w v P s) (hl : Led G w l xs cs) (hdis : ∀ q, F q → ¬ G q) (hmax : cs.length < 100000) : Calls Tryz.prog 28 #[pt v, pt l, nt who, nt t, nt now] w fun e w' => e = .returned (nt (unlE who t)) ∧ (∃ F' G', VotE F' w' v (unlS s who t now) ∧ Led G' w' l xs (unlC cs s who t now) ∧ (∀ q, F' q → F q ∨ w.heap.size ≤ q) ∧ (∀ q, G' q → G q ∨ w.heap.size ≤ q) ∧ (∀ q, F' q → ¬ G' q)) ∧ Keep (fun q => F q ∨ G q) w w' := by
 have hFlt := Vot.lt h
 have hvlt := hFlt _ (Vot.at_ h)
 have hFo : ∀ q, F q → 0 ≤ q := fun q _ => Nat.zero_le q
 have hFr : ∀ q, F q → F q ∨ w.heap.size ≤ q := fun _ h => .inl h
 have hGlt := Led.lt hl
 have hllt := hGlt _ (Led.at_ hl)
 have hGo : ∀ q, G q → 0 ≤ q := fun q _ => Nat.zero_le q
 have hGr : ∀ q, G q → G q ∨ w.heap.size ≤ q := fun _ h => .inl h
 have hK0 : Keep (fun q => F q ∨ G q) w w := Keep.refl _ _
 refine enterM Tryz.func28 rfl [pt v, pt l, nt who, nt t, nt now] 80 rfl rfl rfl ?_
 refine Vp [(0, pt v),(1, pt l),(2, nt who),(3, nt t),(4, nt now)] <| Vr <| On 1 [0, 1, 2, 3, 4, 10] <| Oe <| V_seq <| Vr <| On 8 [0, 1, 2, 3, 4, 10, 21, 22] <| Kq (isAcc_spec who _) <| On 12 [0, 1, 2, 3, 4, 10, 26] ?_
 by_cases hg6 : 0 ≤ who ∧ who ≤ 9
 ·
  refine Nt 26 hg6 <| On 13 [0, 1, 2, 3, 4, 10, 26, 27] <| Kq (isTrk_spec t _) <| Oen [0, 1, 2, 3, 4, 10, 30] <| V_not (0 ≤ t ∧ t ≤ 3) (by kernel_rfl) (fun hc12 => ?_) (fun hc12 => ?_)
  ·
   refine Vs [(10, nt 1)] <| Rt ?_
   have hE13 : unlE who t = 1 := by unfold unlE; rw [if_pos (.inr (hc12))]
   exact leave0 (nt 1) (.inl rfl) (res_tmps rfl) (⟨by rw [hE13], ⟨F, G, ⟨_, by rw [show unlS s who t now = s from by unfold unlS; rw [if_neg (by rw [hE13]; rintro ⟨h9, _⟩; cases h9)]]; exact h⟩, by rw [show unlC cs s who t now = cs from by unfold unlC; rw [if_neg (by rw [hE13]; decide)]]; exact hl, hFr, hGr, hdis⟩, hK0⟩)
  refine Vsk <| Vr <| On 3 [0, 1, 2, 3, 4, 10, 31, 32, 33] ?_
  rcases hd14 : (s.rc who t).d with _ | d15
  ·
   refine Kg (record_spec F v P s who t _ h (by omega) (by omega)) ?_
   rintro _ w30 ⟨q20, P21, rfl, hgc25, hpp26, hgv27, hmn28, hdl29, ⟨F22, ho23, hfr24⟩, hk31⟩
   refine ⟨_, rfl, ?_⟩
   have hsz32 := Keep.size hk31
   replace hl := hl.keep hk31 (fun q hq hs => hdis q hs hq)
   replace hK0 := frl hK0 hk31 hFr
   have own34 : ∀ q, F22 q → 0 ≤ q := fun q hq => by rcases hfr24 q hq with h | h; (have h1 := hFo q h; have h2 := hFlt q h; omega); omega
   have lt33 := Vot.lt ho23
   have rel35 : ∀ q, F22 q → F q ∨ w.heap.size ≤ q := fun q hq => by rcases hfr24 q hq with h | h; exact hFr q h; exact .inr (by omega)
   have dis36 : ∀ q, F22 q → ¬ G q := fun q h1 h2 => by rcases hfr24 q h1 with h | h; exact hdis q h h2; (have h4 := hGlt q h2; omega)
   have hgq20lt := lt33 _ (Vot.at_ ho23)
   obtain ⟨hF38, hm37⟩ := Vot.recN ho23 hgc25 hd14
   have hq20lt := hm37.lt
   have hloq20 := lt33 _ hF38
   have hoq20 := own34 _ hF38
   refine Ose [(0, pt v),(1, pt l),(2, nt who),(3, nt t),(4, nt now),(10, nt 0),(11, pt q20)] ?_
   have hE0 : unlE who t = 0 := by unfold unlE; rw [if_neg (by rintro (h9 | h9); exact h9 hg6; exact h9 hc12)]
   refine V_seqJ (fun wI e => ∃ F39 : Nat → Prop, (Vot F39 wI v P21 (unlS s who t now)) ∧ (∀ q, F39 q → 0 ≤ q) ∧ (∀ q, F39 q → F22 q ∨ w30.heap.size ≤ q) ∧ (∀ q, F39 q → ¬ G q) ∧ Keep F22 w30 wI ∧ e = [(0, pt v),(1, pt l),(2, nt who),(3, nt t),(10, nt 0),(11, pt q20)]) ?_ ?_
   ·
    have hk44 : Keep F22 w30 w30 := Keep.refl _ _
    have rel45 : ∀ q, F22 q → F22 q ∨ w30.heap.size ≤ q := fun q h => .inl h
    refine Vr <| On 3 [0, 1, 2, 3, 4, 10, 11, 37] <| Lr 3 (nt (((s.rc who t)).till)) hm37 <| Ose [(0, pt v),(1, pt l),(2, nt who),(3, nt t),(10, nt 0),(11, pt q20),(40, .bool (decide (((s.rc who t)).till ≤ now)))] <| Vi (((s.rc who t)).till ≤ now) (fun hc46 => ?_) (fun hc46 => ?_)
    ·
     refine V_region <| On 4 [0, 1, 2, 3, 10, 11, 42, 44] <| St_ 3 (nt 0) hm37 ?_
     intro w47 hn50 hk48 hz49
     replace hn50 : Blk w47 q20 [.pointer none, nt (((s.rc who t)).got.v), nt (((s.rc who t)).got.c), nt 0, nt (((s.rc who t)).n)] 99 := hn50
     have hsz51 := Keep.size hk48
     replace hk44 := Keep.fresh hk44 hk48 (fun i hi hs => by have hs : F22 i := (by rw [show i = q20 from hs]; exact hF38); rcases rel45 i hs with h | h; exact h; (exfalso; omega))
     have ho52 := Vot.setRec (a := who) (t := t) (r' := { (s.rc who t) with till := 0 }) (dp := none) (dp' := none) ho23 hgc25 hm37 hk48 (show Blk _ _ (RecS.cells none { (s.rc who t) with till := 0 }) _ from hn50) (.inl ⟨rfl, by first | rfl | exact joinR_d _ _ _ _ | (rw [show s.rc who t = (s.rc who t) from rfl]) | (rw [show s.rc who t = (s.rc who t) from rfl]; exact joinR_d _ _ _ _)⟩)
     obtain ⟨r53, hr53⟩ : ∃ r9 : RecS, r9 = { (s.rc who t) with till := 0 } := ⟨_, rfl⟩
     replace hn50 : Blk w47 q20 (RecS.cells none r53) 99 := by rw [hr53]; exact hn50
     have hq20lt := hn50.lt
     refine Os 7 [(0, pt v),(1, pt l),(2, nt who),(3, nt t),(10, nt 0),(11, pt q20),(46, po_ q20 4)] <| St_ 4 (nt 0) hn50 ?_
     intro w54 hn57 hk55 hz56
     replace hn57 : Blk w54 q20 [.pointer none, nt ((r53).got.v), nt ((r53).got.c), nt ((r53).till), nt 0] 99 := hn57
     have hsz58 := Keep.size hk55
     replace hk44 := Keep.fresh hk44 hk55 (fun i hi hs => by have hs : F22 i := (by rw [show i = q20 from hs]; exact hF38); rcases rel45 i hs with h | h; exact h; (exfalso; omega))
     have ho59 := Vot.setRec (a := who) (t := t) (r' := { r53 with n := 0 }) (dp := none) (dp' := none) ho52 hgc25 (by rw [show (s.setR who t { (s.rc who t) with till := 0 }).rc who t = r53 from ((updR_self _ _ _ _).trans hr53.symm)]; exact hn50) hk55 (show Blk _ _ (RecS.cells none { r53 with n := 0 }) _ from hn57) (.inl ⟨rfl, by first | rfl | exact joinR_d _ _ _ _ | (rw [show (s.setR who t { (s.rc who t) with till := 0 }).rc who t = r53 from ((updR_self _ _ _ _).trans hr53.symm)]) | (rw [show (s.setR who t { (s.rc who t) with till := 0 }).rc who t = r53 from ((updR_self _ _ _ _).trans hr53.symm)]; exact joinR_d _ _ _ _)⟩)
     obtain ⟨r60, hr60⟩ : ∃ r9 : RecS, r9 = { r53 with n := 0 } := ⟨_, rfl⟩
     replace hn57 : Blk w54 q20 (RecS.cells none r60) 99 := by rw [hr60]; exact hn57
     have hq20lt := hn57.lt
     refine OI_end rfl ?_
     have hR61 : unlR (s.rc who t) now = r60 := by unfold unlR; rw [if_pos hc46]; rw [hr60, hr53]
     have hj61 : Vot F22 w54 v P21 (unlS s who t now) := by rw [show unlS s who t now = ((s.setR who t { (s.rc who t) with till := 0 }).setR who t { r53 with n := 0 }) from by unfold unlS; rw [if_pos ⟨hE0, hc46⟩, VS.setR_setR, hR61, hr60]]; exact ho59
     exact X_join [(0, pt v),(1, pt l),(2, nt who),(3, nt t),(10, nt 0),(11, pt q20)] rfl ⟨F22, hj61, (fun q hq => by have h1 := own34 q hq; have h2 := lt33 q hq; omega), rel45, dis36, hk44, rfl⟩
    refine V_skip ?_
    have hj62 : Vot F22 w30 v P21 (unlS s who t now) := by rw [show unlS s who t now = s from by unfold unlS; rw [if_neg (fun h9 => hc46 h9.2)]]; exact ho23
    exact X_join [(0, pt v),(1, pt l),(2, nt who),(3, nt t),(10, nt 0),(11, pt q20)] rfl ⟨F22, hj62, (fun q hq => by have h1 := own34 q hq; have h2 := lt33 q hq; omega), rel45, dis36, hk44, rfl⟩
   ·
    rintro w63 _ ⟨F39, ho40, own41, rel42, dis43, hk64, rfl⟩
    have hsz65 := Keep.size hk64
    replace hl := hl.keep hk64 (fun q hq hs => dis36 q hs hq)
    replace hK0 := frl hK0 hk64 rel35
    have lt66 := Vot.lt ho40
    have rel67 : ∀ q, F39 q → F q ∨ w.heap.size ≤ q := fun q hq => by rcases rel42 q hq with h | h; exact rel35 q h; exact .inr (by omega)
    have hvlt : v < w63.heap.size := Vot.lt ho40 _ (Vot.at_ ho40)
    obtain ⟨hF69, hm68⟩ := Vot.recN ho40 hgc25 (by rw [show (unlS s who t now).rc who t = (unlR (s.rc who t) now) from (unlS_rc s now hE0)]; first | done | exact (unlR_d _ _ hd14))
    rw [show (unlS s who t now).rc who t = (unlR (s.rc who t) now) from (unlS_rc s now hE0)] at hm68
    have hq20lt := hm68.lt
    have hloq20 := lt66 _ hF69
    have hoq20 := own41 _ hF69
    refine Vr <| On 3 [0, 1, 2, 3, 10, 11, 49] <| Lr 4 (nt (((unlR (s.rc who t) now)).n)) hm68 <| Alc_ 3 (nt 0) [nt 0] ?_
    intro b70 w70 e70 hb70 k70 z70
    have hsz71 := Keep.size k70
    replace hm68 := hm68.k0 k70
    replace hl := hl.keep k70 nk
    replace hK0 := hK0.tn k70
    replace ho40 := ho40.keep k70 nk
    have hb70lt := hb70.lt
    refine St_ 0 (nt (((unlR (s.rc who t) now)).n)) hb70 ?_
    intro w72 hb70_75 hk73 hz74
    replace hb70_75 : Blk w72 b70 [nt (((unlR (s.rc who t) now)).n)] 3 := hb70_75
    have hsz76 := Keep.size hk73
    replace hm68 := hm68.k1 hk73
    replace hl := hl.keep hk73 (fun q hq hs => by have hs : q = b70 := hs; have g0 := hGo q hq; have g1 := hGlt q hq; omega)
    replace hK0 := Keep.fr hK0 hk73
    replace ho40 := ho40.keep hk73 (fun q hq hs => by have hs : q = b70 := hs; have g0 := own41 q hq; have g1 := lt66 q hq; omega)
    refine Oe <| V_seq <| Vr <| On 3 [1, 2, 3, 10, 11, 12, 51, 52, 53] <| Ok (kl 60 #[(.tmp 51),(.tmp 52),(.tmp 53)] #[31, 3, 3]) 60 #[pt v, nt who, nt t] (some 54) (votesfn_spec _ rfl who t _) ?_
    rintro _ w81 ⟨bv83, bw84, bt85, rfl, hbv83, hbw84, hbt85, hk82, hgebv83, hgebw84, hgebt85⟩
    refine ⟨_, rfl, ?_⟩
    have hsz86 := Keep.size hk82
    replace hm68 := hm68.k0 hk82
    replace hb70_75 := hb70_75.k0 hk82
    replace hl := hl.keep hk82 nk
    replace hK0 := hK0.tn hk82
    replace ho40 := ho40.keep hk82 nk
    have hbv83lt := hbv83.lt
    have hbw84lt := hbw84.lt
    have hbt85lt := hbt85.lt
    refine Oe <| V_block ?_
    obtain ⟨A87, cap87, hva87⟩ := Vot.arr ho40
    have hal87 := VotA.lenA hva87
    have hvr9 : vrow (unlS s who t now) who t = vrow s who t := (by unfold unlS; split <;> rfl)
    have hvl9 := vrow_len (unlS s who t now) who t
    refine Vp [(1, pt l),(2, nt who),(3, nt t),(11, pt q20),(12, pt b70),(54, .func (.func 94) #[] #[pt bv83, pt bw84, pt bt85])] ?_
    have hN0 : w.heap.size ≤ w81.heap.size := Keep.size hK0
    refine V_range2 (gf := 94) (caps := #[pt bv83, pt bw84, pt bt85]) (m := (vrow (unlS s who t now) who t).length) (by kernel_rfl) (by kernel_rfl) (by kernel_rfl) (votes1_iter bv83 bw84 bt85 v P21.gv P21.gr cap87 P21.pp A87 (unlS s who t now) who t (by omega)) (⟨VotA.grat hva87, VotA.ok hva87 rfl (fun _ => rfl) hbv83 hbw84 hbt85⟩) (fun W W' h k => ⟨h.1.quiet k, h.2.quiet k⟩) (GV.enc2_size _) (fun M1 k W => (Blk W q20 [.pointer none, nt (((unlR (s.rc who t) now)).got.v), nt (((unlR (s.rc who t) now)).got.c), nt (((unlR (s.rc who t) now)).till), nt (((unlR (s.rc who t) now)).n)] 99) ∧ (Blk W bv83 [pt v] 31) ∧ (Blk W bw84 [nt who] 3) ∧ (Blk W bt85 [nt t] 3) ∧ (Led G W l xs cs) ∧ (Keep (fun q => F q ∨ G q) w W) ∧ (VotA A87 cap87 F39 W v P21 (unlS s who t now)) ∧ (Blk W b70 [nt (mostL (((unlR (s.rc who t) now)).n) ((vrow (unlS s who t now) who t).take k))] 3)) (fun M1 c k W => False) (fun M1 k W W' h hk => by obtain ⟨jq20, jbv83, jbw84, jbt85, jhl, jhK0, jhva87, jb70⟩ := h; exact ⟨jq20.quiet hk, jbv83.quiet hk, jbw84.quiet hk, jbt85.quiet hk, Led.quiet jhl hk, jhK0.quiet hk (by omega), VotA.quiet jhva87 hk, jb70.quiet hk⟩) (fun _ _ _ _ _ h _ => h.elim) (fun M1 hM1 => ⟨hm68, hbv83, hbw84, hbt85, hl, hK0, hva87, hb70_75⟩) (fun M1 k W h => by obtain ⟨jq20, jbv83, jbw84, jbt85, jhl, jhK0, jhva87, jb70⟩ := h; exact (VotA.ok jhva87 rfl (fun _ => rfl) jbv83 jbw84 jbt85)) ?_ ?_ (fun _ _ _ _ _ _ _ _ h _ => h.elim)
    ·
     intro lp D M1 k W hD hl hM hMW hkm ⟨jq20, jbv83, jbw84, jbt85, jhl, jhK0, jhva87, jb70⟩ ⟨rr, hrr⟩ hDD
     have hzjhK0 := Keep.size jhK0
     have hq20lt := jq20.lt
     have hb70lt := jb70.lt
     have hbv83lt := jbv83.lt
     have hbw84lt := jbw84.lt
     have hbt85lt := jbt85.lt
     obtain ⟨x, hx⟩ : ∃ x, (vrow (unlS s who t now) who t)[k]? = some x := ⟨_, List.getElem?_eq_getElem (by omega)⟩
     rw [GV.enc2_at hx]
     refine Vp [(12, pt b70),(56, .agg (Vt.cells x.2).toArray)] ?_
     have hfen : Keep (fen w81.heap.size M1) W W := Keep.refl _ _
     have hzhfen := Keep.size hfen
     refine V_region <| OI_alloc 23 (.agg #[nt 0, .bool false, nt 0, nt 0, nt 0, nt 0]) [nt 0, .bool false, nt 0, nt 0, nt 0, nt 0] (some 14) (by kernel_rfl) (by kernel_rfl) (by kernel_rfl) ?_
     intro b88 w88 e88 hb88 k88 z88
     have hsz89 := Keep.size k88
     replace jq20 := jq20.k0 k88
     replace jb70 := jb70.k0 k88
     replace jbv83 := jbv83.k0 k88
     replace jbw84 := jbw84.k0 k88
     replace jbt85 := jbt85.k0 k88
     replace jhl := jhl.keep k88 nk
     replace jhK0 := jhK0.tn k88
     replace jhva87 := VotA.keep jhva87 k88 nk
     replace hfen := hfen.tn k88
     have hb88lt := hb88.lt
     refine Sg 0 (Vt.cells x.2) hb88 (Vt.len _) (Vt.one _) ?_
     intro w90 hb88_93 hk91 hz92
     replace hb88_93 : Blk w90 b88 (Vt.cells x.2) 23 := (by rwa [over_whole (by rw [Vt.len]; rfl)] at hb88_93)
     have hsz94 := Keep.size hk91
     replace jq20 := jq20.k1 hk91
     replace jb70 := jb70.k1 hk91
     replace jbv83 := jbv83.k1 hk91
     replace jbw84 := jbw84.k1 hk91
     replace jbt85 := jbt85.k1 hk91
     replace jhl := jhl.keep hk91 (fun q hq hs => by have hs : q = b88 := hs; have g0 := hGo q hq; have g1 := hGlt q hq; omega)
     replace jhK0 := Keep.fr jhK0 hk91
     replace jhva87 := VotA.keep jhva87 hk91 (fun q hq hs => by have hs : q = b88 := hs; have g0 := own41 q hq; have g1 := lt66 q hq; omega)
     replace hfen := Keep.fresh hfen hk91 (by intro i hi hs; have hs2 : i = b88 := hs; show _ ∨ _; omega)
     refine OI_end rfl <| X_begin2 hfen ?_
     intro W2 hk2 ⟨r2, hr2⟩ hD2
     have hsz95 := Keep.size hk2
     replace jq20 := Blk.quiet jq20 hk2
     replace jb70 := Blk.quiet jb70 hk2
     replace jbv83 := Blk.quiet jbv83 hk2
     replace jbw84 := Blk.quiet jbw84 hk2
     replace jbt85 := Blk.quiet jbt85 hk2
     replace hb88_93 := Blk.quiet hb88_93 hk2
     replace jhl := jhl.quiet hk2
     replace jhK0 := Keep.quiet jhK0 hk2 (by omega)
     replace jhva87 := VotA.quiet jhva87 hk2
     have hzhk2 := Keep.size hk2
     have hfenb : Keep (fen w81.heap.size M1) W2 W2 := Keep.refl _ _
     have hzhfenb := Keep.size hfenb
     refine V_block <| V_draws (acts [2, 4]) none_ [[1, 2, 0, 3, 4]] (by kernel_rfl) (by repeat first | exact (by first | exact sure_postM | exact sure_rQ2 | exact sure_no) | refine sure_then ?_ | refine sure_block ?_ | refine sure_join ?_) (by kernel_rfl) ?_
     intro w97 hk96 he98 L hL99
     have hsz100 := Keep.size hk96
     replace jb70 := jb70.k0 hk96
     replace hb88_93 := hb88_93.k0 hk96
     replace jhl := jhl.keep hk96 nk
     replace jhK0 := jhK0.tn hk96
     replace jhva87 := VotA.keep jhva87 hk96 nk
     replace hfenb := hfenb.tn hk96
     have qjb70 := jb70
     have qhb88_93 := hb88_93
     have K101 : Keep none_ w97 w97 := Keep.refl _ _
     obtain rfl := List.mem_singleton.1 hL99
     refine Ma 0 (Vt.cells x.2) 6 qhb88_93 id (take_all (Vt.len _)) (Vt.len _) <| Hg (cvCapital_spec x.2 _) ?_
     rintro _ w104 ⟨rfl, hk105⟩
     have K106 := K101.tr (Keep.ofNone hk105)
     refine ⟨_, rfl, K106, ?_⟩
     have hzK106 := Keep.size K106
     have hsz107 := Keep.size hk105
     replace jq20 := jq20.k0 (hk96.tr hk105)
     replace jb70 := jb70.k0 hk105
     replace jbv83 := jbv83.k0 (hk96.tr hk105)
     replace jbw84 := jbw84.k0 (hk96.tr hk105)
     replace jbt85 := jbt85.k0 (hk96.tr hk105)
     replace jhl := jhl.keep hk105 nk
     replace jhK0 := jhK0.tn hk105
     replace jhva87 := VotA.keep jhva87 hk105 nk
     replace hfenb := hfenb.tn hk105
     refine Mr 0 (nt (mostL (((unlR (s.rc who t) now)).n) ((vrow (unlS s who t now) who t).take k))) qjb70 <| Gs [4] [(12, pt b70),(60, nt (if capI x.2 > mostL (((unlR (s.rc who t) now)).n) ((vrow (unlS s who t now) who t).take k) then capI x.2 else mostL (((unlR (s.rc who t) now)).n) ((vrow (unlS s who t now) who t).take k)))] <| GI_final 4 (by kernel_rfl) (by kernel_rfl) <| St_ 0 (nt (if capI x.2 > mostL (((unlR (s.rc who t) now)).n) ((vrow (unlS s who t now) who t).take k) then capI x.2 else mostL (((unlR (s.rc who t) now)).n) ((vrow (unlS s who t now) who t).take k))) jb70 ?_
     intro w108 hb70_111 hk109 hz110
     replace hb70_111 : Blk w108 b70 [nt (if capI x.2 > mostL (((unlR (s.rc who t) now)).n) ((vrow (unlS s who t now) who t).take k) then capI x.2 else mostL (((unlR (s.rc who t) now)).n) ((vrow (unlS s who t now) who t).take k))] 3 := hb70_111
     have hsz112 := Keep.size hk109
     replace jq20 := jq20.k1 hk109
     replace jbv83 := jbv83.k1 hk109
     replace jbw84 := jbw84.k1 hk109
     replace jbt85 := jbt85.k1 hk109
     replace jhl := jhl.keep hk109 (fun q hq hs => by have hs : q = b70 := hs; have g0 := hGo q hq; have g1 := hGlt q hq; omega)
     replace jhK0 := Keep.fr jhK0 hk109
     replace jhva87 := VotA.keep jhva87 hk109 (fun q hq hs => by have hs : q = b70 := hs; have g0 := own41 q hq; have g1 := lt66 q hq; omega)
     replace hfenb := Keep.fresh hfenb hk109 (by intro i hi hs; have hs2 : i = b70 := hs; show _ ∨ _; omega)
     refine OI_end rfl <| X_block ?_
     exact fun a _ => ⟨hfenb, jq20, jbv83, jbw84, jbt85, jhl, jhK0, jhva87, by rw [mostL_step hx]; exact hb70_111⟩
    ·
     intro D M1 W hD hM ⟨jq20, jbv83, jbw84, jbt85, jhl, jhK0, jhva87, jb70⟩ hDD
     have hzjhK0 := Keep.size jhK0
     have hq20lt := jq20.lt
     have hb70lt := jb70.lt
     have hbv83lt := jbv83.lt
     have hbw84lt := jbw84.lt
     have hbt85lt := jbt85.lt
     have ho113 := VotA.vot jhva87
     rw [List.take_length] at jb70
     refine X_block <| X_then <| V_seq <| Vr <| On 3 [1, 2, 3, 11, 12, 63] <| Lr 0 (.pointer none) jq20 <| Oen [1, 2, 3, 11, 12, 65] <| Vf <| Vsk <| Vr <| On 3 [12, 75, 76, 77] <| Lr 0 (nt (mostL (((unlR (s.rc who t) now)).n) (vrow (unlS s who t now) who t))) jb70 <| Kg (lock_spec G l xs cs who t (mostL (((unlR (s.rc who t) now)).n) (vrow (unlS s who t now) who t)) _ jhl hmax) ?_
     rintro _ w116 ⟨rfl, ⟨F118, ho119, hfr120⟩, hk117⟩
     refine ⟨_, rfl, ?_⟩
     have hsz121 := Keep.size hk117
     replace jhK0 := frR jhK0 hk117 hGr
     replace ho113 := ho113.keep hk117 (fun q hq hs => dis43 q hq hs)
     replace hDD := (Keep.block hk117 _ (Array.getElem?_eq_some_iff.1 hDD).1 (fun hs => by have h1 := hGo _ hs; have h2 := hGlt _ hs; omega)).trans hDD
     have own123 : ∀ q, F118 q → 0 ≤ q ∧ q ≠ b70 ∧ q ≠ bv83 ∧ q ≠ bw84 ∧ q ≠ bt85 := fun q hq => by rcases hfr120 q hq with h | h; (have h1 := hGo q h; have h2 := hGlt q h; omega); omega
     have lt122 := Led.lt ho119
     have rel124 : ∀ q, F118 q → G q ∨ w.heap.size ≤ q := fun q hq => by rcases hfr120 q hq with h | h; exact hGr q h; exact .inr (by omega)
     have dis125 : ∀ q, F118 q → ¬ F39 q := fun q h1 h2 => by rcases hfr120 q h1 with h | h; exact dis43 q h2 h; (have h4 := lt66 q h2; omega)
     obtain ⟨hF127, hm126⟩ := Vot.recN ho113 hgc25 (by rw [show (unlS s who t now).rc who t = (unlR (s.rc who t) now) from (unlS_rc s now hE0)]; first | done | exact (unlR_d _ _ hd14))
     rw [show (unlS s who t now).rc who t = (unlR (s.rc who t) now) from (unlS_rc s now hE0)] at hm126
     have hq20lt := hm126.lt
     have hloq20 := lt66 _ hF127
     have hoq20 := own41 _ hF127
     refine Oer <| Ose [(10, nt 0)] <| V_ret ?_
     have hE128 : unlE who t = 0 := by unfold unlE; rw [if_neg (by rintro (h9 | h9); exact h9 hg6; exact h9 hc12)]
     exact leave1 (nt 0) (.inl rfl) hDD (fun w' hk => ⟨res_tmps rfl, ⟨by rw [hE128], ⟨F39, F118, ⟨_, by rw [show unlS s who t now = unlS s who t now from rfl]; exact Vot.quiet ho113 hk⟩, by rw [show unlC cs s who t now = (lockC cs who t (mostL (((unlR (s.rc who t) now)).n) (vrow (unlS s who t now) who t))) from by unfold unlC unlN unlM; rw [if_pos hE128, hd14, hvr9]; first | done | rfl]; exact Led.quiet ho119 hk, rel67, rel124, (fun q h1 h2 => dis125 q h2 h1)⟩, Keep.quiet jhK0 hk (by omega)⟩⟩)
  ·
   refine Kg (record_spec F v P s who t _ h (by omega) (by omega)) ?_
   rintro _ w143 ⟨q133, P134, rfl, hgc138, hpp139, hgv140, hmn141, hdl142, ⟨F135, ho136, hfr137⟩, hk144⟩
   refine ⟨_, rfl, ?_⟩
   have hsz145 := Keep.size hk144
   replace hl := hl.keep hk144 (fun q hq hs => hdis q hs hq)
   replace hK0 := frl hK0 hk144 hFr
   have own147 : ∀ q, F135 q → 0 ≤ q := fun q hq => by rcases hfr137 q hq with h | h; (have h1 := hFo q h; have h2 := hFlt q h; omega); omega
   have lt146 := Vot.lt ho136
   have rel148 : ∀ q, F135 q → F q ∨ w.heap.size ≤ q := fun q hq => by rcases hfr137 q hq with h | h; exact hFr q h; exact .inr (by omega)
   have dis149 : ∀ q, F135 q → ¬ G q := fun q h1 h2 => by rcases hfr137 q h1 with h | h; exact hdis q h h2; (have h4 := hGlt q h2; omega)
   have hgq133lt := lt146 _ (Vot.at_ ho136)
   obtain ⟨bd152, hF151, hF153, hm150, hm154⟩ := Vot.recD ho136 hgc138 hd14
   have hbd152lt := hm154.lt
   have hlobd152 := lt146 _ hF153
   have hobd152 := own147 _ hF153
   have hq133lt := hm150.lt
   have hloq133 := lt146 _ hF151
   have hoq133 := own147 _ hF151
   have hnebd152q133 : bd152 ≠ q133 := Blk.ne hm154 hm150 (by decide)
   refine Ose [(0, pt v),(1, pt l),(2, nt who),(3, nt t),(4, nt now),(10, nt 0),(11, pt q133)] ?_
   have hE0 : unlE who t = 0 := by unfold unlE; rw [if_neg (by rintro (h9 | h9); exact h9 hg6; exact h9 hc12)]
   refine V_seqJ (fun wI e => ∃ F155 : Nat → Prop, (Vot F155 wI v P134 (unlS s who t now)) ∧ (∀ q, F155 q → 0 ≤ q) ∧ (∀ q, F155 q → F135 q ∨ w143.heap.size ≤ q) ∧ (∀ q, F155 q → ¬ G q) ∧ Keep F135 w143 wI ∧ e = [(0, pt v),(1, pt l),(2, nt who),(3, nt t),(10, nt 0),(11, pt q133)]) ?_ ?_
   ·
    have hk160 : Keep F135 w143 w143 := Keep.refl _ _
    have rel161 : ∀ q, F135 q → F135 q ∨ w143.heap.size ≤ q := fun q h => .inl h
    refine Vr <| On 3 [0, 1, 2, 3, 4, 10, 11, 37] <| Lr 3 (nt (((s.rc who t)).till)) hm150 <| Ose [(0, pt v),(1, pt l),(2, nt who),(3, nt t),(10, nt 0),(11, pt q133),(40, .bool (decide (((s.rc who t)).till ≤ now)))] <| Vi (((s.rc who t)).till ≤ now) (fun hc162 => ?_) (fun hc162 => ?_)
    ·
     refine V_region <| On 4 [0, 1, 2, 3, 10, 11, 42, 44] <| St_ 3 (nt 0) hm150 ?_
     intro w163 hn166 hk164 hz165
     replace hn166 : Blk w163 q133 [pt bd152, nt (((s.rc who t)).got.v), nt (((s.rc who t)).got.c), nt 0, nt (((s.rc who t)).n)] 99 := hn166
     have hsz167 := Keep.size hk164
     replace hk160 := Keep.fresh hk160 hk164 (fun i hi hs => by have hs : F135 i := (by rw [show i = q133 from hs]; exact hF151); rcases rel161 i hs with h | h; exact h; (exfalso; omega))
     have ho168 := Vot.setRec (a := who) (t := t) (r' := { (s.rc who t) with till := 0 }) (dp := (some ⟨bd152, 0, none⟩)) (dp' := (some ⟨bd152, 0, none⟩)) ho136 hgc138 hm150 hk164 (show Blk _ _ (RecS.cells (some ⟨bd152, 0, none⟩) { (s.rc who t) with till := 0 }) _ from hn166) (.inl ⟨rfl, by first | rfl | exact joinR_d _ _ _ _ | (rw [show s.rc who t = (s.rc who t) from rfl]) | (rw [show s.rc who t = (s.rc who t) from rfl]; exact joinR_d _ _ _ _)⟩)
     obtain ⟨r169, hr169⟩ : ∃ r9 : RecS, r9 = { (s.rc who t) with till := 0 } := ⟨_, rfl⟩
     replace hn166 : Blk w163 q133 (RecS.cells (some ⟨bd152, 0, none⟩) r169) 99 := by rw [hr169]; exact hn166
     have hq133lt := hn166.lt
     refine Os 7 [(0, pt v),(1, pt l),(2, nt who),(3, nt t),(10, nt 0),(11, pt q133),(46, po_ q133 4)] <| St_ 4 (nt 0) hn166 ?_
     intro w170 hn173 hk171 hz172
     replace hn173 : Blk w170 q133 [pt bd152, nt ((r169).got.v), nt ((r169).got.c), nt ((r169).till), nt 0] 99 := hn173
     have hsz174 := Keep.size hk171
     replace hk160 := Keep.fresh hk160 hk171 (fun i hi hs => by have hs : F135 i := (by rw [show i = q133 from hs]; exact hF151); rcases rel161 i hs with h | h; exact h; (exfalso; omega))
     have ho175 := Vot.setRec (a := who) (t := t) (r' := { r169 with n := 0 }) (dp := (some ⟨bd152, 0, none⟩)) (dp' := (some ⟨bd152, 0, none⟩)) ho168 hgc138 (by rw [show (s.setR who t { (s.rc who t) with till := 0 }).rc who t = r169 from ((updR_self _ _ _ _).trans hr169.symm)]; exact hn166) hk171 (show Blk _ _ (RecS.cells (some ⟨bd152, 0, none⟩) { r169 with n := 0 }) _ from hn173) (.inl ⟨rfl, by first | rfl | exact joinR_d _ _ _ _ | (rw [show (s.setR who t { (s.rc who t) with till := 0 }).rc who t = r169 from ((updR_self _ _ _ _).trans hr169.symm)]) | (rw [show (s.setR who t { (s.rc who t) with till := 0 }).rc who t = r169 from ((updR_self _ _ _ _).trans hr169.symm)]; exact joinR_d _ _ _ _)⟩)
     obtain ⟨r176, hr176⟩ : ∃ r9 : RecS, r9 = { r169 with n := 0 } := ⟨_, rfl⟩
     replace hn173 : Blk w170 q133 (RecS.cells (some ⟨bd152, 0, none⟩) r176) 99 := by rw [hr176]; exact hn173
     have hq133lt := hn173.lt
     refine OI_end rfl ?_
     have hR177 : unlR (s.rc who t) now = r176 := by unfold unlR; rw [if_pos hc162]; rw [hr176, hr169]
     have hj177 : Vot F135 w170 v P134 (unlS s who t now) := by rw [show unlS s who t now = ((s.setR who t { (s.rc who t) with till := 0 }).setR who t { r169 with n := 0 }) from by unfold unlS; rw [if_pos ⟨hE0, hc162⟩, VS.setR_setR, hR177, hr176]]; exact ho175
     exact X_join [(0, pt v),(1, pt l),(2, nt who),(3, nt t),(10, nt 0),(11, pt q133)] rfl ⟨F135, hj177, (fun q hq => by have h1 := own147 q hq; have h2 := lt146 q hq; omega), rel161, dis149, hk160, rfl⟩
    refine V_skip ?_
    have hj178 : Vot F135 w143 v P134 (unlS s who t now) := by rw [show unlS s who t now = s from by unfold unlS; rw [if_neg (fun h9 => hc162 h9.2)]]; exact ho136
    exact X_join [(0, pt v),(1, pt l),(2, nt who),(3, nt t),(10, nt 0),(11, pt q133)] rfl ⟨F135, hj178, (fun q hq => by have h1 := own147 q hq; have h2 := lt146 q hq; omega), rel161, dis149, hk160, rfl⟩
   ·
    rintro w179 _ ⟨F155, ho156, own157, rel158, dis159, hk180, rfl⟩
    have hsz181 := Keep.size hk180
    replace hl := hl.keep hk180 (fun q hq hs => dis149 q hs hq)
    replace hK0 := frl hK0 hk180 rel148
    have lt182 := Vot.lt ho156
    have rel183 : ∀ q, F155 q → F q ∨ w.heap.size ≤ q := fun q hq => by rcases rel158 q hq with h | h; exact rel148 q h; exact .inr (by omega)
    have hvlt : v < w179.heap.size := Vot.lt ho156 _ (Vot.at_ ho156)
    obtain ⟨bd186, hF185, hF187, hm184, hm188⟩ := Vot.recD ho156 hgc138 (by rw [show (unlS s who t now).rc who t = (unlR (s.rc who t) now) from (unlS_rc s now hE0)]; first | done | exact (unlR_d _ _ hd14))
    have hbd186lt := hm188.lt
    have hlobd186 := lt182 _ hF187
    have hobd186 := own157 _ hF187
    rw [show (unlS s who t now).rc who t = (unlR (s.rc who t) now) from (unlS_rc s now hE0)] at hm184
    have hq133lt := hm184.lt
    have hloq133 := lt182 _ hF185
    have hoq133 := own157 _ hF185
    have hnebd186q133 : bd186 ≠ q133 := Blk.ne hm188 hm184 (by decide)
    refine Vr <| On 3 [0, 1, 2, 3, 10, 11, 49] <| Lr 4 (nt (((unlR (s.rc who t) now)).n)) hm184 <| Alc_ 3 (nt 0) [nt 0] ?_
    intro b189 w189 e189 hb189 k189 z189
    have hsz190 := Keep.size k189
    replace hm188 := hm188.k0 k189
    replace hm184 := hm184.k0 k189
    replace hl := hl.keep k189 nk
    replace hK0 := hK0.tn k189
    replace ho156 := ho156.keep k189 nk
    have hb189lt := hb189.lt
    refine St_ 0 (nt (((unlR (s.rc who t) now)).n)) hb189 ?_
    intro w191 hb189_194 hk192 hz193
    replace hb189_194 : Blk w191 b189 [nt (((unlR (s.rc who t) now)).n)] 3 := hb189_194
    have hsz195 := Keep.size hk192
    replace hm188 := hm188.k1 hk192
    replace hm184 := hm184.k1 hk192
    replace hl := hl.keep hk192 (fun q hq hs => by have hs : q = b189 := hs; have g0 := hGo q hq; have g1 := hGlt q hq; omega)
    replace hK0 := Keep.fr hK0 hk192
    replace ho156 := ho156.keep hk192 (fun q hq hs => by have hs : q = b189 := hs; have g0 := own157 q hq; have g1 := lt182 q hq; omega)
    refine Oe <| V_seq <| Vr <| On 3 [1, 2, 3, 10, 11, 12, 51, 52, 53] <| Ok (kl 60 #[(.tmp 51),(.tmp 52),(.tmp 53)] #[31, 3, 3]) 60 #[pt v, nt who, nt t] (some 54) (votesfn_spec _ rfl who t _) ?_
    rintro _ w200 ⟨bv202, bw203, bt204, rfl, hbv202, hbw203, hbt204, hk201, hgebv202, hgebw203, hgebt204⟩
    refine ⟨_, rfl, ?_⟩
    have hsz205 := Keep.size hk201
    replace hm188 := hm188.k0 hk201
    replace hm184 := hm184.k0 hk201
    replace hb189_194 := hb189_194.k0 hk201
    replace hl := hl.keep hk201 nk
    replace hK0 := hK0.tn hk201
    replace ho156 := ho156.keep hk201 nk
    have hbv202lt := hbv202.lt
    have hbw203lt := hbw203.lt
    have hbt204lt := hbt204.lt
    refine Oe <| V_block ?_
    obtain ⟨A206, cap206, hva206⟩ := Vot.arr ho156
    have hal206 := VotA.lenA hva206
    have hvr9 : vrow (unlS s who t now) who t = vrow s who t := (by unfold unlS; split <;> rfl)
    have hvl9 := vrow_len (unlS s who t now) who t
    refine Vp [(1, pt l),(2, nt who),(3, nt t),(11, pt q133),(12, pt b189),(54, .func (.func 94) #[] #[pt bv202, pt bw203, pt bt204])] ?_
    have hN0 : w.heap.size ≤ w200.heap.size := Keep.size hK0
    refine V_range2 (gf := 94) (caps := #[pt bv202, pt bw203, pt bt204]) (m := (vrow (unlS s who t now) who t).length) (by kernel_rfl) (by kernel_rfl) (by kernel_rfl) (votes1_iter bv202 bw203 bt204 v P134.gv P134.gr cap206 P134.pp A206 (unlS s who t now) who t (by omega)) (⟨VotA.grat hva206, VotA.ok hva206 rfl (fun _ => rfl) hbv202 hbw203 hbt204⟩) (fun W W' h k => ⟨h.1.quiet k, h.2.quiet k⟩) (GV.enc2_size _) (fun M1 k W => (Blk W bd186 [nt ((d15).to), nt ((d15).level), nt ((d15).n)] 101) ∧ (Blk W q133 [pt bd186, nt (((unlR (s.rc who t) now)).got.v), nt (((unlR (s.rc who t) now)).got.c), nt (((unlR (s.rc who t) now)).till), nt (((unlR (s.rc who t) now)).n)] 99) ∧ (Blk W bv202 [pt v] 31) ∧ (Blk W bw203 [nt who] 3) ∧ (Blk W bt204 [nt t] 3) ∧ (Led G W l xs cs) ∧ (Keep (fun q => F q ∨ G q) w W) ∧ (VotA A206 cap206 F155 W v P134 (unlS s who t now)) ∧ (Blk W b189 [nt (mostL (((unlR (s.rc who t) now)).n) ((vrow (unlS s who t now) who t).take k))] 3)) (fun M1 c k W => False) (fun M1 k W W' h hk => by obtain ⟨jbd186, jq133, jbv202, jbw203, jbt204, jhl, jhK0, jhva206, jb189⟩ := h; exact ⟨jbd186.quiet hk, jq133.quiet hk, jbv202.quiet hk, jbw203.quiet hk, jbt204.quiet hk, Led.quiet jhl hk, jhK0.quiet hk (by omega), VotA.quiet jhva206 hk, jb189.quiet hk⟩) (fun _ _ _ _ _ h _ => h.elim) (fun M1 hM1 => ⟨hm188, hm184, hbv202, hbw203, hbt204, hl, hK0, hva206, hb189_194⟩) (fun M1 k W h => by obtain ⟨jbd186, jq133, jbv202, jbw203, jbt204, jhl, jhK0, jhva206, jb189⟩ := h; exact (VotA.ok jhva206 rfl (fun _ => rfl) jbv202 jbw203 jbt204)) ?_ ?_ (fun _ _ _ _ _ _ _ _ h _ => h.elim)
    ·
     intro lp D M1 k W hD hl hM hMW hkm ⟨jbd186, jq133, jbv202, jbw203, jbt204, jhl, jhK0, jhva206, jb189⟩ ⟨rr, hrr⟩ hDD
     have hzjhK0 := Keep.size jhK0
     have hbd186lt := jbd186.lt
     have hq133lt := jq133.lt
     have hb189lt := jb189.lt
     have hbv202lt := jbv202.lt
     have hbw203lt := jbw203.lt
     have hbt204lt := jbt204.lt
     obtain ⟨x, hx⟩ : ∃ x, (vrow (unlS s who t now) who t)[k]? = some x := ⟨_, List.getElem?_eq_getElem (by omega)⟩
     rw [GV.enc2_at hx]
     refine Vp [(12, pt b189),(56, .agg (Vt.cells x.2).toArray)] ?_
     have hfen : Keep (fen w200.heap.size M1) W W := Keep.refl _ _
     have hzhfen := Keep.size hfen
     refine V_region <| OI_alloc 23 (.agg #[nt 0, .bool false, nt 0, nt 0, nt 0, nt 0]) [nt 0, .bool false, nt 0, nt 0, nt 0, nt 0] (some 14) (by kernel_rfl) (by kernel_rfl) (by kernel_rfl) ?_
     intro b207 w207 e207 hb207 k207 z207
     have hsz208 := Keep.size k207
     replace jbd186 := jbd186.k0 k207
     replace jq133 := jq133.k0 k207
     replace jb189 := jb189.k0 k207
     replace jbv202 := jbv202.k0 k207
     replace jbw203 := jbw203.k0 k207
     replace jbt204 := jbt204.k0 k207
     replace jhl := jhl.keep k207 nk
     replace jhK0 := jhK0.tn k207
     replace jhva206 := VotA.keep jhva206 k207 nk
     replace hfen := hfen.tn k207
     have hb207lt := hb207.lt
     refine Sg 0 (Vt.cells x.2) hb207 (Vt.len _) (Vt.one _) ?_
     intro w209 hb207_212 hk210 hz211
     replace hb207_212 : Blk w209 b207 (Vt.cells x.2) 23 := (by rwa [over_whole (by rw [Vt.len]; rfl)] at hb207_212)
     have hsz213 := Keep.size hk210
     replace jbd186 := jbd186.k1 hk210
     replace jq133 := jq133.k1 hk210
     replace jb189 := jb189.k1 hk210
     replace jbv202 := jbv202.k1 hk210
     replace jbw203 := jbw203.k1 hk210
     replace jbt204 := jbt204.k1 hk210
     replace jhl := jhl.keep hk210 (fun q hq hs => by have hs : q = b207 := hs; have g0 := hGo q hq; have g1 := hGlt q hq; omega)
     replace jhK0 := Keep.fr jhK0 hk210
     replace jhva206 := VotA.keep jhva206 hk210 (fun q hq hs => by have hs : q = b207 := hs; have g0 := own157 q hq; have g1 := lt182 q hq; omega)
     replace hfen := Keep.fresh hfen hk210 (by intro i hi hs; have hs2 : i = b207 := hs; show _ ∨ _; omega)
     refine OI_end rfl <| X_begin2 hfen ?_
     intro W2 hk2 ⟨r2, hr2⟩ hD2
     have hsz214 := Keep.size hk2
     replace jbd186 := Blk.quiet jbd186 hk2
     replace jq133 := Blk.quiet jq133 hk2
     replace jb189 := Blk.quiet jb189 hk2
     replace jbv202 := Blk.quiet jbv202 hk2
     replace jbw203 := Blk.quiet jbw203 hk2
     replace jbt204 := Blk.quiet jbt204 hk2
     replace hb207_212 := Blk.quiet hb207_212 hk2
     replace jhl := jhl.quiet hk2
     replace jhK0 := Keep.quiet jhK0 hk2 (by omega)
     replace jhva206 := VotA.quiet jhva206 hk2
     have hzhk2 := Keep.size hk2
     have hfenb : Keep (fen w200.heap.size M1) W2 W2 := Keep.refl _ _
     have hzhfenb := Keep.size hfenb
     refine V_block <| V_draws (acts [2, 4]) none_ [[1, 2, 0, 3, 4]] (by kernel_rfl) (by repeat first | exact (by first | exact sure_postM | exact sure_rQ2 | exact sure_no) | refine sure_then ?_ | refine sure_block ?_ | refine sure_join ?_) (by kernel_rfl) ?_
     intro w216 hk215 he217 L hL218
     have hsz219 := Keep.size hk215
     replace jb189 := jb189.k0 hk215
     replace hb207_212 := hb207_212.k0 hk215
     replace jhl := jhl.keep hk215 nk
     replace jhK0 := jhK0.tn hk215
     replace jhva206 := VotA.keep jhva206 hk215 nk
     replace hfenb := hfenb.tn hk215
     have qjb189 := jb189
     have qhb207_212 := hb207_212
     have K220 : Keep none_ w216 w216 := Keep.refl _ _
     obtain rfl := List.mem_singleton.1 hL218
     refine Ma 0 (Vt.cells x.2) 6 qhb207_212 id (take_all (Vt.len _)) (Vt.len _) <| Hg (cvCapital_spec x.2 _) ?_
     rintro _ w223 ⟨rfl, hk224⟩
     have K225 := K220.tr (Keep.ofNone hk224)
     refine ⟨_, rfl, K225, ?_⟩
     have hzK225 := Keep.size K225
     have hsz226 := Keep.size hk224
     replace jbd186 := jbd186.k0 (hk215.tr hk224)
     replace jq133 := jq133.k0 (hk215.tr hk224)
     replace jb189 := jb189.k0 hk224
     replace jbv202 := jbv202.k0 (hk215.tr hk224)
     replace jbw203 := jbw203.k0 (hk215.tr hk224)
     replace jbt204 := jbt204.k0 (hk215.tr hk224)
     replace jhl := jhl.keep hk224 nk
     replace jhK0 := jhK0.tn hk224
     replace jhva206 := VotA.keep jhva206 hk224 nk
     replace hfenb := hfenb.tn hk224
     refine Mr 0 (nt (mostL (((unlR (s.rc who t) now)).n) ((vrow (unlS s who t now) who t).take k))) qjb189 <| Gs [4] [(12, pt b189),(60, nt (if capI x.2 > mostL (((unlR (s.rc who t) now)).n) ((vrow (unlS s who t now) who t).take k) then capI x.2 else mostL (((unlR (s.rc who t) now)).n) ((vrow (unlS s who t now) who t).take k)))] <| GI_final 4 (by kernel_rfl) (by kernel_rfl) <| St_ 0 (nt (if capI x.2 > mostL (((unlR (s.rc who t) now)).n) ((vrow (unlS s who t now) who t).take k) then capI x.2 else mostL (((unlR (s.rc who t) now)).n) ((vrow (unlS s who t now) who t).take k))) jb189 ?_
     intro w227 hb189_230 hk228 hz229
     replace hb189_230 : Blk w227 b189 [nt (if capI x.2 > mostL (((unlR (s.rc who t) now)).n) ((vrow (unlS s who t now) who t).take k) then capI x.2 else mostL (((unlR (s.rc who t) now)).n) ((vrow (unlS s who t now) who t).take k))] 3 := hb189_230
     have hsz231 := Keep.size hk228
     replace jbd186 := jbd186.k1 hk228
     replace jq133 := jq133.k1 hk228
     replace jbv202 := jbv202.k1 hk228
     replace jbw203 := jbw203.k1 hk228
     replace jbt204 := jbt204.k1 hk228
     replace jhl := jhl.keep hk228 (fun q hq hs => by have hs : q = b189 := hs; have g0 := hGo q hq; have g1 := hGlt q hq; omega)
     replace jhK0 := Keep.fr jhK0 hk228
     replace jhva206 := VotA.keep jhva206 hk228 (fun q hq hs => by have hs : q = b189 := hs; have g0 := own157 q hq; have g1 := lt182 q hq; omega)
     replace hfenb := Keep.fresh hfenb hk228 (by intro i hi hs; have hs2 : i = b189 := hs; show _ ∨ _; omega)
     refine OI_end rfl <| X_block ?_
     exact fun a _ => ⟨hfenb, jbd186, jq133, jbv202, jbw203, jbt204, jhl, jhK0, jhva206, by rw [mostL_step hx]; exact hb189_230⟩
    ·
     intro D M1 W hD hM ⟨jbd186, jq133, jbv202, jbw203, jbt204, jhl, jhK0, jhva206, jb189⟩ hDD
     have hzjhK0 := Keep.size jhK0
     have hbd186lt := jbd186.lt
     have hq133lt := jq133.lt
     have hb189lt := jb189.lt
     have hbv202lt := jbv202.lt
     have hbw203lt := jbw203.lt
     have hbt204lt := jbt204.lt
     have ho232 := VotA.vot jhva206
     rw [List.take_length] at jb189
     refine X_block <| X_then <| V_seq <| Vr <| On 3 [1, 2, 3, 11, 12, 63] <| Lr 0 (pt bd186) jq133 <| Oen [1, 2, 3, 11, 12, 65] <| Vo <| V_draws (acts [9]) none_ [[0, 1, 2, 3, 4, 5, 6, 7, 8, 9]] (by kernel_rfl) (by repeat first | exact (by first | exact sure_postM | exact sure_rQ2 | exact sure_no) | refine sure_then ?_ | refine sure_block ?_ | refine sure_join ?_) (by kernel_rfl) ?_
     intro w234 hk233 he235 L hL236
     have hsz237 := Keep.size hk233
     replace jbd186 := jbd186.k0 hk233
     replace jq133 := jq133.k0 hk233
     replace jb189 := jb189.k0 hk233
     replace jhl := jhl.keep hk233 nk
     replace jhK0 := jhK0.tn hk233
     replace ho232 := ho232.keep hk233 nk
     replace hDD := (Keep.block hk233 _ (Array.getElem?_eq_some_iff.1 hDD).1 id).trans hDD
     have qjbd186 := jbd186
     have qjq133 := jq133
     have qjb189 := jb189
     have K238 : Keep none_ w234 w234 := Keep.refl _ _
     obtain rfl := List.mem_singleton.1 hL236
     refine Mr 0 (nt (mostL (((unlR (s.rc who t) now)).n) (vrow (unlS s who t now) who t))) qjb189 <| Gn [4, 5, 6, 7, 8, 9] [1, 2, 3, 12, 66, 69] <| Mr 0 (pt bd186) qjq133 <| Gn [7, 8, 9] [1, 2, 3, 12, 66, 72] <| Mr 2 (nt ((d15).n)) qjbd186 <| Gn [9] [1, 2, 3, 12, 74] <| GI_final 9 (by kernel_rfl) (by kernel_rfl) <| St_ 0 (nt (if (d15).n > mostL (((unlR (s.rc who t) now)).n) (vrow (unlS s who t now) who t) then (d15).n else mostL (((unlR (s.rc who t) now)).n) (vrow (unlS s who t now) who t))) jb189 ?_
     intro w239 hb189_242 hk240 hz241
     replace hb189_242 : Blk w239 b189 [nt (if (d15).n > mostL (((unlR (s.rc who t) now)).n) (vrow (unlS s who t now) who t) then (d15).n else mostL (((unlR (s.rc who t) now)).n) (vrow (unlS s who t now) who t))] 3 := hb189_242
     have hsz243 := Keep.size hk240
     replace jhl := jhl.keep hk240 (fun q hq hs => by have hs : q = b189 := hs; have g0 := hGo q hq; have g1 := hGlt q hq; omega)
     replace jhK0 := Keep.fr jhK0 hk240
     replace ho232 := ho232.keep hk240 (fun q hq hs => by have hs : q = b189 := hs; have g0 := own157 q hq; have g1 := lt182 q hq; omega)
     replace hDD := (Keep.block hk240 _ (Array.getElem?_eq_some_iff.1 hDD).1 (by show ¬ (_ = _); omega)).trans hDD
     refine Oer <| On 3 [12, 75, 76, 77] <| Lr 0 (nt (if (d15).n > mostL (((unlR (s.rc who t) now)).n) (vrow (unlS s who t now) who t) then (d15).n else mostL (((unlR (s.rc who t) now)).n) (vrow (unlS s who t now) who t))) hb189_242 <| Kg (lock_spec G l xs cs who t (if (d15).n > mostL (((unlR (s.rc who t) now)).n) (vrow (unlS s who t now) who t) then (d15).n else mostL (((unlR (s.rc who t) now)).n) (vrow (unlS s who t now) who t)) _ jhl hmax) ?_
     rintro _ w246 ⟨rfl, ⟨F248, ho249, hfr250⟩, hk247⟩
     refine ⟨_, rfl, ?_⟩
     have hsz251 := Keep.size hk247
     replace jhK0 := frR jhK0 hk247 hGr
     replace ho232 := ho232.keep hk247 (fun q hq hs => dis159 q hq hs)
     replace hDD := (Keep.block hk247 _ (Array.getElem?_eq_some_iff.1 hDD).1 (fun hs => by have h1 := hGo _ hs; have h2 := hGlt _ hs; omega)).trans hDD
     have own253 : ∀ q, F248 q → 0 ≤ q ∧ q ≠ b189 ∧ q ≠ bv202 ∧ q ≠ bw203 ∧ q ≠ bt204 := fun q hq => by rcases hfr250 q hq with h | h; (have h1 := hGo q h; have h2 := hGlt q h; omega); omega
     have lt252 := Led.lt ho249
     have rel254 : ∀ q, F248 q → G q ∨ w.heap.size ≤ q := fun q hq => by rcases hfr250 q hq with h | h; exact hGr q h; exact .inr (by omega)
     have dis255 : ∀ q, F248 q → ¬ F155 q := fun q h1 h2 => by rcases hfr250 q h1 with h | h; exact dis159 q h2 h; (have h4 := lt182 q h2; omega)
     obtain ⟨bd258, hF257, hF259, hm256, hm260⟩ := Vot.recD ho232 hgc138 (by rw [show (unlS s who t now).rc who t = (unlR (s.rc who t) now) from (unlS_rc s now hE0)]; first | done | exact (unlR_d _ _ hd14))
     have hbd258lt := hm260.lt
     have hlobd258 := lt182 _ hF259
     have hobd258 := own157 _ hF259
     rw [show (unlS s who t now).rc who t = (unlR (s.rc who t) now) from (unlS_rc s now hE0)] at hm256
     have hq133lt := hm256.lt
     have hloq133 := lt182 _ hF257
     have hoq133 := own157 _ hF257
     have hnebd258q133 : bd258 ≠ q133 := Blk.ne hm260 hm256 (by decide)
     refine Oer <| Ose [(10, nt 0)] <| V_ret ?_
     have hE261 : unlE who t = 0 := by unfold unlE; rw [if_neg (by rintro (h9 | h9); exact h9 hg6; exact h9 hc12)]
     exact leave1 (nt 0) (.inl rfl) hDD (fun w' hk => ⟨res_tmps rfl, ⟨by rw [hE261], ⟨F155, F248, ⟨_, by rw [show unlS s who t now = unlS s who t now from rfl]; exact Vot.quiet ho232 hk⟩, by rw [show unlC cs s who t now = (lockC cs who t (if (d15).n > mostL (((unlR (s.rc who t) now)).n) (vrow (unlS s who t now) who t) then (d15).n else mostL (((unlR (s.rc who t) now)).n) (vrow (unlS s who t now) who t))) from by unfold unlC unlN unlM; rw [if_pos hE261, hd14, hvr9]; first | done | rfl]; exact Led.quiet ho249 hk, rel183, rel254, (fun q h1 h2 => dis255 q h2 h1)⟩, Keep.quiet jhK0 hk (by omega)⟩⟩)
 refine Nf 26 hg6 <| Oen [0, 1, 2, 3, 4, 10, 30] <| Vo <| Vs [(10, nt 1)] <| Rt ?_
 have hE262 : unlE who t = 1 := by unfold unlE; rw [if_pos (.inl hg6)]
 exact leave0 (nt 1) (.inl rfl) (res_tmps rfl) (⟨by rw [hE262], ⟨F, G, ⟨_, by rw [show unlS s who t now = s from by unfold unlS; rw [if_neg (by rw [hE262]; rintro ⟨h9, _⟩; cases h9)]]; exact h⟩, by rw [show unlC cs s who t now = cs from by unfold unlC; rw [if_neg (by rw [hE262]; decide)]]; exact hl, hFr, hGr, hdis⟩, hK0⟩)
end Go.Al
namespace Go.Al
open Go Go.RowKit Go.Proofs
theorem unlock_spec (F G : Nat → Prop) (v l : Nat) (s : VS) (xs : List Acc) (cs : List Ci) (who t now : Int) (w : World) (h : VotT F w v s) (hl : Led G w l xs cs) (hdis : ∀ q, F q → ¬ G q) (hmax : cs.length < 100000) : Calls Tryz.prog 28 #[pt v, pt l, nt who, nt t, nt now] w fun e w' => e = .returned (nt (unlE who t)) ∧ (∃ F' G', VotT F' w' v (unlS s who t now) ∧ Led G' w' l xs (unlC cs s who t now) ∧ (∀ q, F' q → F q ∨ w.heap.size ≤ q) ∧ (∀ q, G' q → G q ∨ w.heap.size ≤ q) ∧ (∀ q, F' q → ¬ G' q)) ∧ Keep (fun q => F q ∨ G q) w w' := by
  obtain ⟨⟨P, h⟩, ht⟩ := h
  refine (unlock_at F G v l P s xs cs who t now w h hl hdis hmax).mono ?_
  rintro e w' ⟨rfl, ⟨F', G', h1, h2, h3⟩, hk⟩
  exact ⟨rfl, ⟨F', G', ⟨h1, ht.unlS _ _ _⟩, h2, h3⟩, hk⟩
end Go.Al
namespace Go.Al
open Go Go.RowKit Go.Proofs
set_option maxHeartbeats 1000000 in
theorem unvote_at (F : Nat → Prop) (v : Nat) (P : VP) (s : VS) (who ref now : Int) (w : World) (h : Vot F w v P s) (htr : TrkOk s) : Calls Tryz.prog 25 #[pt v, nt who, nt ref, nt now] w fun e w' => e = .returned (nt (unvE s who ref)) ∧ (∃ F', VotE F' w' v (unvS s who ref now) ∧ (∀ q, F' q → F q ∨ w.heap.size ≤ q)) ∧ Keep F w w' := by
 have hFlt := Vot.lt h
 have hvlt := hFlt _ (Vot.at_ h)
 have hFo : ∀ q, F q → 0 ≤ q := fun q _ => Nat.zero_le q
 have hFr : ∀ q, F q → F q ∨ w.heap.size ≤ q := fun _ h => .inl h
 obtain ⟨hvl0, hvb⟩ := Vot.vblk h
 have hFv := Vot.at_ h
 have hinv := Vot.inv h
 have hK0 := Keep.refl F w
 refine eV ?_
 refine Vr <| On 1 [0, 1, 2, 3] <| Oe <| V_seq <| Vr <| On 4 [0, 1, 2, 3, 15, 16] <| Kq (isAcc_spec who _) <| Oen [0, 1, 2, 3, 19] <| V_not (0 ≤ who ∧ who ≤ 9) (by kernel_rfl) (fun hc6 => ?_) (fun hc6 => ?_)
 ·
  refine Vn [8] <| Rt ?_
  have hE7 : unvE s who ref = 1 := by unfold unvE; rw [if_pos hc6]
  exact Xr (nt 1) ⟨by rw [hE7], ⟨F, ⟨_, by rw [show unvS s who ref now = s from by unfold unvS; rw [hE7, if_neg (by decide)]]; exact h⟩, hFr⟩, hK0⟩
 refine Vsk <| Vr <| On 2 [0, 1, 2, 3, 20, 21] ?_
 rcases Vot.pollcase h ref with ⟨hpn8, hpc8⟩ | ⟨i8, b8, q8, hpr8, hpi8, hpp8, hps8, hpa8⟩
 ·
  refine Kk (poll_none F v P s ref _ h hpc8) fun w11 hk12 _ => ?_
  replace h := h.keep hk12 nk
  replace hK0 := hK0.tn hk12
  refine On 4 [0, 1, 2, 3, 9] <| Oe <| V_seq <| Vn [0, 1, 2, 3, 9, 24] <| Vo <| Vn [8] <| Rt ?_
  have hE14 : unvE s who ref = 4 := by unfold unvE; rw [if_neg (fun h9 => h9 hc6)]; rw [hpn8]
  exact Xr (nt 4) ⟨by rw [hE14], ⟨F, ⟨_, by rw [show unvS s who ref now = s from by unfold unvS; rw [hE14, if_neg (by decide)]]; exact h⟩, hFr⟩, hK0⟩
 ·
  refine Ok (kl 46 #[(.tmp 20),(.tmp 21)] #[31, 3]) 46 #[pt v, nt ref] (some 22) ((by rw [hpr8]; exact poll_some F v P s i8 b8 _ h hpi8 hpp8)) ?_
  rintro _ w17 ⟨rfl, hk18⟩
  refine ⟨_, rfl, ?_⟩
  have hsz19 := Keep.size hk18
  replace hvb := hvb.k0 hk18
  replace h := h.keep hk18 nk
  replace hK0 := hK0.tn hk18
  obtain ⟨hm20, hF21⟩ := Vot.pollB h hpp8 hps8
  have hb8lt := hm20.lt
  have hlob8 := hFlt _ hF21
  have hob8 := hFo _ hF21
  have hneb8v : b8 ≠ v := Blk.ne hm20 hvb (by decide)
  refine On 4 [0, 1, 2, 3, 9] <| Oe <| V_seq <| Vn [0, 1, 2, 3, 9, 24] <| Vf <| Vsk <| Vr <| On 5 [0, 1, 2, 3, 9, 25, 26, 29] <| Lr 0 (nt ((q8).track)) hm20 ?_
  rcases hd22 : (s.rc who ((q8).track)).d with _ | d23
  ·
   refine Kg (record_spec F v P s who ((q8).track) _ h (by omega) (htr _ _ (by assumption))) ?_
   rintro _ w38 ⟨q28, P29, rfl, hgc33, hpp34, hgv35, hmn36, hdl37, ⟨F30, ho31, hfr32⟩, hk39⟩
   refine ⟨_, rfl, ?_⟩
   have hsz40 := Keep.size hk39
   replace hK0 := frr hK0 hk39 hFr
   have own42 : ∀ q, F30 q → 0 ≤ q := fun q hq => by rcases hfr32 q hq with h | h; (have h1 := hFo q h; have h2 := hFlt q h; omega); omega
   have lt41 := Vot.lt ho31
   have rel43 : ∀ q, F30 q → F q ∨ w.heap.size ≤ q := fun q hq => by rcases hfr32 q hq with h | h; exact hFr q h; exact .inr (by omega)
   have hqb8w38 := (show P29.pp[i8]? = some (some ⟨b8, 0, none⟩) from by rw [hpp34]; exact hpp8)
   have hgq28lt := lt41 _ (Vot.at_ ho31)
   obtain ⟨hvlhm44, hm44⟩ := Vot.vblk ho31
   have hF45 := Vot.at_ ho31
   have hvlt := hm44.lt
   have hlov := lt41 _ hF45
   have hov := own42 _ hF45
   obtain ⟨hm46, hF47⟩ := Vot.pollB ho31 hqb8w38 hps8
   have hb8lt := hm46.lt
   have hlob8 := lt41 _ hF47
   have hob8 := own42 _ hF47
   obtain ⟨hF49, hm48⟩ := Vot.recN ho31 hgc33 hd22
   have hq28lt := hm48.lt
   have hloq28 := lt41 _ hF49
   have hoq28 := own42 _ hF49
   have hneb8v : b8 ≠ v := Blk.ne hm46 hm44 (by decide)
   have hneq28v : q28 ≠ v := Blk.ne hm48 hm44 (by decide)
   have hneq28b8 : q28 ≠ b8 := Blk.ne hm48 hm46 (by decide)
   refine On 8 [0, 1, 2, 3, 9, 10] <| Oer <| On 3 [0, 1, 2, 3, 9, 10, 35] <| Lc 12 (pt P29.gv) hm44 (by rw [List.getElem?_append_right (by rw [List.length_map]; omega), List.length_map, hvlhm44]; rfl) ?_
   refine On 6 [0, 1, 2, 3, 9, 10, 36, 37, 38] <| Kk (vget_spec F30 v P29 s who ref _ ho31) fun w52 hk53 _ => ?_
   replace hK0 := hK0.tn hk53
   replace ho31 := ho31.keep hk53 nk
   refine On 10 [0, 1, 2, 3, 9, 10, 40, 41] <| Alc_ 23 (.agg #[nt 0, .bool false, nt 0, nt 0, nt 0, nt 0]) [nt 0, .bool false, nt 0, nt 0, nt 0, nt 0] ?_
   intro b55 w55 e55 hb55 k55 z55
   have hsz56 := Keep.size k55
   replace hm44 := hm44.k0 (hk53.tr k55)
   replace hK0 := hK0.tn k55
   replace ho31 := ho31.keep k55 nk
   have hb55lt := hb55.lt
   refine Sg 0 (Vt.cells ((GV.getC who ref s.cs).getD Vt.zero)) hb55 (Vt.len _) (Vt.one _) ?_
   intro w57 hb55_60 hk58 hz59
   replace hb55_60 : Blk w57 b55 (Vt.cells ((GV.getC who ref s.cs).getD Vt.zero)) 23 := (by rwa [over_whole (by rw [Vt.len]; rfl)] at hb55_60)
   have hsz61 := Keep.size hk58
   replace hm44 := hm44.k1 hk58
   replace hK0 := Keep.fr hK0 hk58
   replace ho31 := ho31.keep hk58 (fun q hq hs => by have hs : q = b55 := hs; have g0 := own42 q hq; have g1 := lt41 q hq; omega)
   refine On 13 [0, 1, 2, 3, 9, 10, 11, 12] <| Oe <| V_seq <| Vn [0, 1, 2, 3, 9, 10, 11, 43] <| Vb (!((GV.getC who ref s.cs).isSome)) (fun hc62 => ?_) (fun hc62 => ?_)
   ·
    refine Vn [8] <| Rt ?_
    have hE63 : unvE s who ref = 4 := by unfold unvE; rw [if_neg (fun h9 => h9 hc6)]; rw [hpa8]; dsimp only; rw [if_neg (by rw [(show (GV.getC who ref s.cs).isSome = false from by simpa using hc62)]; decide)]
    exact Xr (nt 4) ⟨by rw [hE63], ⟨F30, ⟨_, by rw [show unvS s who ref now = s from by unfold unvS; rw [hE63, if_neg (by decide)]]; exact ho31⟩, rel43⟩, hK0⟩
   refine Vsk <| Vr <| On 3 [1, 2, 3, 9, 10, 11, 46] <| Lc 12 (pt P29.gv) hm44 (by rw [List.getElem?_append_right (by rw [List.length_map]; omega), List.length_map, hvlhm44]; rfl) ?_
   refine On 6 [3, 9, 10, 11, 47, 48, 49] <| Kg (vdel_spec F30 v P29 s who ref _ ho31) ?_
   rintro _ w68 ⟨rfl, ⟨F70, ho71, hfr72⟩, hk69⟩
   refine ⟨_, rfl, ?_⟩
   have hsz73 := Keep.size hk69
   replace hb55_60 := hb55_60.keep hk69 (fun hs => by have h1 := own42 _ hs; have h2 := lt41 _ hs; omega)
   replace hK0 := frr hK0 hk69 rel43
   have own75 : ∀ q, F70 q → 0 ≤ q ∧ q ≠ b55 := fun q hq => by rcases hfr72 q hq with h | h; (have h1 := own42 q h; have h2 := lt41 q h; omega); omega
   have lt74 := Vot.lt ho71
   have rel76 : ∀ q, F70 q → F q ∨ w.heap.size ≤ q := fun q hq => by rcases hfr72 q hq with h | h; exact rel43 q h; exact .inr (by omega)
   obtain ⟨hvlhm77, hm77⟩ := Vot.vblk ho71
   have hF78 := Vot.at_ ho71
   have hvlt := hm77.lt
   have hlov := lt74 _ hF78
   have hov := own75 _ hF78
   obtain ⟨hm79, hF80⟩ := Vot.pollB ho71 hqb8w38 hps8
   have hb8lt := hm79.lt
   have hlob8 := lt74 _ hF80
   have hob8 := own75 _ hF80
   obtain ⟨hF82, hm81⟩ := Vot.recN ho71 hgc33 hd22
   have hq28lt := hm81.lt
   have hloq28 := lt74 _ hF82
   have hoq28 := own75 _ hF82
   have hneb8v : b8 ≠ v := Blk.ne hm79 hm77 (by decide)
   have hneq28v : q28 ≠ v := Blk.ne hm81 hm77 (by decide)
   have hneq28b8 : q28 ≠ b8 := Blk.ne hm81 hm79 (by decide)
   refine Oe <| V_seq <| V_block <| Vr <| On 3 [3, 9, 10, 11, 54] <| Lr 4 (nt ((q8).state)) hm79 <| Oen [3, 9, 10, 11, 51] <| Vi ((q8).state = 0) (fun hc83 => ?_) (fun hc83 => ?_)
   ·
    refine Vd1 (acts [10, 11, 14]) none_ [5, 6, 7, 8, 9, 10, 1, 2, 3, 4, 11, 0, 12, 13, 14] fun w85 hk84 he86 K89 _ => ?_
    replace hb55_60 := hb55_60.k0 hk84
    replace hm79 := hm79.k0 hk84
    replace hm81 := hm81.k0 hk84
    replace hK0 := hK0.tn hk84
    replace ho71 := ho71.keep hk84 nk
    have qhb55_60 := hb55_60
    have qhm79 := hm79
    have qhm81 := hm81
    refine Ma 0 (Vt.cells ((GV.getC who ref s.cs).getD Vt.zero)) 6 qhb55_60 id (take_all (Vt.len _)) (Vt.len _) <| Gn [9, 10, 1, 2, 3, 4, 11, 0, 12, 13, 14] [9, 62, 65] <| Ma 1 [nt (((s.rc who ((q8).track))).got.v), nt (((s.rc who ((q8).track))).got.c)] 2 qhm81 id rfl rfl <| Hg (cvGain_spec ((GV.getC who ref s.cs).getD Vt.zero) (((s.rc who ((q8).track))).got) _) ?_
    rintro _ w92 ⟨rfl, hk93⟩
    have K94 := K89.tr (Keep.ofNone hk93)
    refine ⟨_, rfl, K94, ?_⟩
    have hzK94 := Keep.size K94
    have hsz95 := Keep.size hk93
    replace hK0 := hK0.tn hk93
    replace ho71 := ho71.keep hk93 nk
    refine Gn [4, 11, 0, 12, 13, 14] [9, 60, 67] <| Ma 1 [nt ((q8).t.a), nt ((q8).t.n), nt ((q8).t.s)] 3 qhm79 id rfl rfl <| Hg (cvSub_spec ((q8).t) (gainT ((GV.getC who ref s.cs).getD Vt.zero) (((s.rc who ((q8).track))).got)) _) ?_
    rintro _ w98 ⟨rfl, hk99⟩
    have K100 := K94.tr (Keep.ofNone hk99)
    refine ⟨_, rfl, K100, ?_⟩
    have hzK100 := Keep.size K100
    have hsz101 := Keep.size hk99
    replace hm79 := hm79.k0 (hk93.tr hk99)
    replace hK0 := hK0.tn hk99
    replace ho71 := ho71.keep hk99 nk
    refine Gn [14] [68, 70] <| GI_final 14 (by kernel_rfl) (by kernel_rfl) <| Sg 1 (Tly.cells (subT ((q8).t) (gainT ((GV.getC who ref s.cs).getD Vt.zero) (((s.rc who ((q8).track))).got)))) hm79 (Tly.len _) (Tly.one _) ?_
    intro w102 hn105 hk103 hz104
    replace hn105 : Blk w102 b8 (PollS.cells { q8 with t := (subT ((q8).t) (gainT ((GV.getC who ref s.cs).getD Vt.zero) (((s.rc who ((q8).track))).got))) }) 89 := hn105
    have hsz106 := Keep.size hk103
    replace hK0 := Keep.fresh hK0 hk103 (fun i hi hs => by have hs : F70 i := (by rw [show i = b8 from hs]; exact hF80); rcases rel76 i hs with h | h; exact h; (exfalso; omega))
    obtain ⟨tv108, htv108⟩ : ∃ t9 : Tly, t9 = (subT ((q8).t) (gainT ((GV.getC who ref s.cs).getD Vt.zero) (((s.rc who ((q8).track))).got))) := ⟨_, rfl⟩
    rw [← htv108] at hn105
    have ho107 := Vot.setPoll ho71 hqb8w38 hps8 hk103 (show Blk _ _ (PollS.cells { q8 with t := tv108 }) _ from hn105)
    have hs109 : (({ s with cs := GV.delC who ref s.cs }).setP i8 { q8 with t := tv108 }).ps[i8]? = some (some { q8 with t := tv108 }) := List.getElem?_set_self (List.getElem?_eq_some_iff.1 hps8).1
    have hb8lt := hn105.lt
    refine OI_end rfl <| X_block <| X_then <| Vn [8] <| V_ret ?_
    have hE110 : unvE s who ref = 0 := by unfold unvE; rw [if_neg (fun h9 => h9 hc6)]; rw [hpa8]; dsimp only; rw [if_pos (show (GV.getC who ref s.cs).isSome = true from by simpa using hc62)]
    exact Xr (nt 0) ⟨by rw [hE110], ⟨F70, ⟨_, by rw [show unvS s who ref now = (({ s with cs := GV.delC who ref s.cs }).setP i8 { q8 with t := tv108 }) from by unfold unvS; rw [hE110, if_pos rfl, hpa8]; dsimp only; rw [if_pos hc83, show ref.toNat = i8 from by rw [hpr8]; exact Int.toNat_natCast _, htv108]]; exact ho107⟩, rel76⟩, hK0⟩
   refine V_seq <| Vd1 (acts [5]) none_ [0, 1, 2, 3, 4, 5, 6] fun w112 hk111 he113 K116 _ => ?_
   replace hb55_60 := hb55_60.k0 hk111
   replace hm79 := hm79.k0 hk111
   replace hK0 := hK0.tn hk111
   replace ho71 := ho71.keep hk111 nk
   have qhb55_60 := hb55_60
   have qhm79 := hm79
   refine Ma 0 (Vt.cells ((GV.getC who ref s.cs).getD Vt.zero)) 6 qhb55_60 id (take_all (Vt.len _)) (Vt.len _) <| Gn [4, 5, 6] [3, 9, 10, 11, 72, 75] <| Mr 4 (nt ((q8).state)) qhm79 <| Hg (won_spec ((GV.getC who ref s.cs).getD Vt.zero) ((q8).state) _) ?_
   rintro _ w119 ⟨rfl, hk120⟩
   have K121 := K116.tr (Keep.ofNone hk120)
   refine ⟨_, rfl, K121, ?_⟩
   have hzK121 := Keep.size K121
   have hsz122 := Keep.size hk120
   replace hb55_60 := hb55_60.k0 hk120
   replace hm79 := hm79.k0 hk120
   replace hm81 := hm81.k0 (hk111.tr hk120)
   replace hK0 := hK0.tn hk120
   replace ho71 := ho71.keep hk120 nk
   refine Gn [] [3, 9, 10, 11, 71] <| GI_end <| X_then <| Vb (wonV ((GV.getC who ref s.cs).getD Vt.zero) ((q8).state)) (fun hc123 => ?_) (fun hc123 => ?_)
   ·
    refine Vd1 (acts [7, 12]) none_ [5, 6, 7, 0, 1, 2, 3, 4, 8, 9, 10, 11, 12] fun w125 hk124 he126 K129 _ => ?_
    replace hb55_60 := hb55_60.k0 hk124
    replace hm79 := hm79.k0 hk124
    replace hm81 := hm81.k0 hk124
    replace hK0 := hK0.tn hk124
    replace ho71 := ho71.keep hk124 nk
    have qhb55_60 := hb55_60
    have qhm79 := hm79
    refine Gn [6, 7, 0, 1, 2, 3, 4, 8, 9, 10, 11, 12] [3, 9, 10, 11, 83] <| Mr 2 (nt (((GV.getC who ref s.cs).getD Vt.zero).level)) qhb55_60 <| Hq K129 (cvPeriod_spec (((GV.getC who ref s.cs).getD Vt.zero).level) 8 _ (lev_ok hinv (show (GV.getC who ref s.cs).isSome = true from by simpa using hc62) hc123)) <| Gn [4, 8, 9, 10, 11, 12] [3, 11, 78, 81, 85] <| Mr 5 (nt ((q8).stop)) qhm79 <| Gn [10, 11, 12] [3, 78, 86, 87] <| Mr 3 (nt (((GV.getC who ref s.cs).getD Vt.zero).a)) qhb55_60 <| Gn [12] [78, 86, 88, 89] <| GI_final 12 (by kernel_rfl) (by kernel_rfl) <| Kg (joins_spec q28 none (s.rc who ((q8).track)) (i64.wrap (((q8).stop) + (cvPeriod (((GV.getC who ref s.cs).getD Vt.zero).level) 8))) (((GV.getC who ref s.cs).getD Vt.zero).a) now _ hm81) ?_
    rintro _ w137 ⟨rfl, hn139, hk138⟩
    refine ⟨_, rfl, ?_⟩
    have hsz140 := Keep.size hk138
    replace hK0 := Keep.fresh hK0 hk138 (fun i hi hs => by have hs : F70 i := (by rw [show i = q28 from hs]; exact hF82); rcases rel76 i hs with h | h; exact h; (exfalso; omega))
    have ho141 := Vot.setRec (a := who) (t := ((q8).track)) (r' := (joinR (s.rc who ((q8).track)) (i64.wrap (((q8).stop) + (cvPeriod (((GV.getC who ref s.cs).getD Vt.zero).level) 8))) (((GV.getC who ref s.cs).getD Vt.zero).a) now)) (dp := none) (dp' := none) ho71 hgc33 hm81 hk138 (show Blk _ _ (RecS.cells none (joinR (s.rc who ((q8).track)) (i64.wrap (((q8).stop) + (cvPeriod (((GV.getC who ref s.cs).getD Vt.zero).level) 8))) (((GV.getC who ref s.cs).getD Vt.zero).a) now)) _ from hn139) (.inl ⟨rfl, by first | rfl | exact joinR_d _ _ _ _ | (rw [show ({ s with cs := GV.delC who ref s.cs }).rc who ((q8).track) = (s.rc who ((q8).track)) from rfl]) | (rw [show ({ s with cs := GV.delC who ref s.cs }).rc who ((q8).track) = (s.rc who ((q8).track)) from rfl]; exact joinR_d _ _ _ _)⟩)
    obtain ⟨r142, hr142⟩ : ∃ r9 : RecS, r9 = (joinR (s.rc who ((q8).track)) (i64.wrap (((q8).stop) + (cvPeriod (((GV.getC who ref s.cs).getD Vt.zero).level) 8))) (((GV.getC who ref s.cs).getD Vt.zero).a) now) := ⟨_, rfl⟩
    replace hn139 : Blk w137 q28 (RecS.cells none r142) 99 := by rw [hr142]; exact hn139
    have hq28lt := hn139.lt
    refine OI_end rfl <| X_block <| X_then <| Vn [8] <| V_ret ?_
    have hE143 : unvE s who ref = 0 := by unfold unvE; rw [if_neg (fun h9 => h9 hc6)]; rw [hpa8]; dsimp only; rw [if_pos (show (GV.getC who ref s.cs).isSome = true from by simpa using hc62)]
    exact Xr (nt 0) ⟨by rw [hE143], ⟨F70, ⟨_, by rw [show unvS s who ref now = (({ s with cs := GV.delC who ref s.cs }).setR who ((q8).track) (joinR (s.rc who ((q8).track)) (i64.wrap (((q8).stop) + (cvPeriod (((GV.getC who ref s.cs).getD Vt.zero).level) 8))) (((GV.getC who ref s.cs).getD Vt.zero).a) now)) from by unfold unvS; rw [hE143, if_pos rfl, hpa8]; dsimp only; rw [if_neg hc83]; rw [if_pos hc123]]; exact ho141⟩, rel76⟩, hK0⟩
   refine V_skip <| X_block <| X_then <| Vn [8] <| V_ret ?_
   have hE144 : unvE s who ref = 0 := by unfold unvE; rw [if_neg (fun h9 => h9 hc6)]; rw [hpa8]; dsimp only; rw [if_pos (show (GV.getC who ref s.cs).isSome = true from by simpa using hc62)]
   exact Xr (nt 0) ⟨by rw [hE144], ⟨F70, ⟨_, by rw [show unvS s who ref now = ({ s with cs := GV.delC who ref s.cs }) from by unfold unvS; rw [hE144, if_pos rfl, hpa8]; dsimp only; rw [if_neg hc83]; rw [if_neg (by rw [hc123]; decide)]]; exact ho71⟩, rel76⟩, hK0⟩
  ·
   refine Kg (record_spec F v P s who ((q8).track) _ h (by omega) (htr _ _ (by assumption))) ?_
   rintro _ w159 ⟨q149, P150, rfl, hgc154, hpp155, hgv156, hmn157, hdl158, ⟨F151, ho152, hfr153⟩, hk160⟩
   refine ⟨_, rfl, ?_⟩
   have hsz161 := Keep.size hk160
   replace hK0 := frr hK0 hk160 hFr
   have own163 : ∀ q, F151 q → 0 ≤ q := fun q hq => by rcases hfr153 q hq with h | h; (have h1 := hFo q h; have h2 := hFlt q h; omega); omega
   have lt162 := Vot.lt ho152
   have rel164 : ∀ q, F151 q → F q ∨ w.heap.size ≤ q := fun q hq => by rcases hfr153 q hq with h | h; exact hFr q h; exact .inr (by omega)
   have hqb8w159 := (show P150.pp[i8]? = some (some ⟨b8, 0, none⟩) from by rw [hpp155]; exact hpp8)
   have hgq149lt := lt162 _ (Vot.at_ ho152)
   obtain ⟨hvlhm165, hm165⟩ := Vot.vblk ho152
   have hF166 := Vot.at_ ho152
   have hvlt := hm165.lt
   have hlov := lt162 _ hF166
   have hov := own163 _ hF166
   obtain ⟨hm167, hF168⟩ := Vot.pollB ho152 hqb8w159 hps8
   have hb8lt := hm167.lt
   have hlob8 := lt162 _ hF168
   have hob8 := own163 _ hF168
   obtain ⟨bd171, hF170, hF172, hm169, hm173⟩ := Vot.recD ho152 hgc154 hd22
   have hbd171lt := hm173.lt
   have hlobd171 := lt162 _ hF172
   have hobd171 := own163 _ hF172
   have hq149lt := hm169.lt
   have hloq149 := lt162 _ hF170
   have hoq149 := own163 _ hF170
   have hneb8v : b8 ≠ v := Blk.ne hm167 hm165 (by decide)
   have hneq149v : q149 ≠ v := Blk.ne hm169 hm165 (by decide)
   have hneq149b8 : q149 ≠ b8 := Blk.ne hm169 hm167 (by decide)
   have hnebd171v : bd171 ≠ v := Blk.ne hm173 hm165 (by decide)
   have hnebd171b8 : bd171 ≠ b8 := Blk.ne hm173 hm167 (by decide)
   have hnebd171q149 : bd171 ≠ q149 := Blk.ne hm173 hm169 (by decide)
   refine On 8 [0, 1, 2, 3, 9, 10] <| Oer <| On 3 [0, 1, 2, 3, 9, 10, 35] <| Lc 12 (pt P150.gv) hm165 (by rw [List.getElem?_append_right (by rw [List.length_map]; omega), List.length_map, hvlhm165]; rfl) ?_
   refine On 6 [0, 1, 2, 3, 9, 10, 36, 37, 38] <| Kk (vget_spec F151 v P150 s who ref _ ho152) fun w176 hk177 _ => ?_
   replace hK0 := hK0.tn hk177
   replace ho152 := ho152.keep hk177 nk
   refine On 10 [0, 1, 2, 3, 9, 10, 40, 41] <| Alc_ 23 (.agg #[nt 0, .bool false, nt 0, nt 0, nt 0, nt 0]) [nt 0, .bool false, nt 0, nt 0, nt 0, nt 0] ?_
   intro b179 w179 e179 hb179 k179 z179
   have hsz180 := Keep.size k179
   replace hm165 := hm165.k0 (hk177.tr k179)
   replace hK0 := hK0.tn k179
   replace ho152 := ho152.keep k179 nk
   have hb179lt := hb179.lt
   refine Sg 0 (Vt.cells ((GV.getC who ref s.cs).getD Vt.zero)) hb179 (Vt.len _) (Vt.one _) ?_
   intro w181 hb179_184 hk182 hz183
   replace hb179_184 : Blk w181 b179 (Vt.cells ((GV.getC who ref s.cs).getD Vt.zero)) 23 := (by rwa [over_whole (by rw [Vt.len]; rfl)] at hb179_184)
   have hsz185 := Keep.size hk182
   replace hm165 := hm165.k1 hk182
   replace hK0 := Keep.fr hK0 hk182
   replace ho152 := ho152.keep hk182 (fun q hq hs => by have hs : q = b179 := hs; have g0 := own163 q hq; have g1 := lt162 q hq; omega)
   refine On 13 [0, 1, 2, 3, 9, 10, 11, 12] <| Oe <| V_seq <| Vn [0, 1, 2, 3, 9, 10, 11, 43] <| Vb (!((GV.getC who ref s.cs).isSome)) (fun hc186 => ?_) (fun hc186 => ?_)
   ·
    refine Vn [8] <| Rt ?_
    have hE187 : unvE s who ref = 4 := by unfold unvE; rw [if_neg (fun h9 => h9 hc6)]; rw [hpa8]; dsimp only; rw [if_neg (by rw [(show (GV.getC who ref s.cs).isSome = false from by simpa using hc186)]; decide)]
    exact Xr (nt 4) ⟨by rw [hE187], ⟨F151, ⟨_, by rw [show unvS s who ref now = s from by unfold unvS; rw [hE187, if_neg (by decide)]]; exact ho152⟩, rel164⟩, hK0⟩
   refine Vsk <| Vr <| On 3 [1, 2, 3, 9, 10, 11, 46] <| Lc 12 (pt P150.gv) hm165 (by rw [List.getElem?_append_right (by rw [List.length_map]; omega), List.length_map, hvlhm165]; rfl) ?_
   refine On 6 [3, 9, 10, 11, 47, 48, 49] <| Kg (vdel_spec F151 v P150 s who ref _ ho152) ?_
   rintro _ w192 ⟨rfl, ⟨F194, ho195, hfr196⟩, hk193⟩
   refine ⟨_, rfl, ?_⟩
   have hsz197 := Keep.size hk193
   replace hb179_184 := hb179_184.keep hk193 (fun hs => by have h1 := own163 _ hs; have h2 := lt162 _ hs; omega)
   replace hK0 := frr hK0 hk193 rel164
   have own199 : ∀ q, F194 q → 0 ≤ q ∧ q ≠ b179 := fun q hq => by rcases hfr196 q hq with h | h; (have h1 := own163 q h; have h2 := lt162 q h; omega); omega
   have lt198 := Vot.lt ho195
   have rel200 : ∀ q, F194 q → F q ∨ w.heap.size ≤ q := fun q hq => by rcases hfr196 q hq with h | h; exact rel164 q h; exact .inr (by omega)
   obtain ⟨hvlhm201, hm201⟩ := Vot.vblk ho195
   have hF202 := Vot.at_ ho195
   have hvlt := hm201.lt
   have hlov := lt198 _ hF202
   have hov := own199 _ hF202
   obtain ⟨hm203, hF204⟩ := Vot.pollB ho195 hqb8w159 hps8
   have hb8lt := hm203.lt
   have hlob8 := lt198 _ hF204
   have hob8 := own199 _ hF204
   obtain ⟨bd207, hF206, hF208, hm205, hm209⟩ := Vot.recD ho195 hgc154 hd22
   have hbd207lt := hm209.lt
   have hlobd207 := lt198 _ hF208
   have hobd207 := own199 _ hF208
   have hq149lt := hm205.lt
   have hloq149 := lt198 _ hF206
   have hoq149 := own199 _ hF206
   have hneb8v : b8 ≠ v := Blk.ne hm203 hm201 (by decide)
   have hneq149v : q149 ≠ v := Blk.ne hm205 hm201 (by decide)
   have hneq149b8 : q149 ≠ b8 := Blk.ne hm205 hm203 (by decide)
   have hnebd207v : bd207 ≠ v := Blk.ne hm209 hm201 (by decide)
   have hnebd207b8 : bd207 ≠ b8 := Blk.ne hm209 hm203 (by decide)
   have hnebd207q149 : bd207 ≠ q149 := Blk.ne hm209 hm205 (by decide)
   refine Oe <| V_seq <| V_block <| Vr <| On 3 [3, 9, 10, 11, 54] <| Lr 4 (nt ((q8).state)) hm203 <| Oen [3, 9, 10, 11, 51] <| Vi ((q8).state = 0) (fun hc210 => ?_) (fun hc210 => ?_)
   ·
    refine Vd1 (acts [10, 11, 14]) none_ [5, 6, 7, 8, 9, 10, 1, 2, 3, 4, 11, 0, 12, 13, 14] fun w212 hk211 he213 K216 _ => ?_
    replace hb179_184 := hb179_184.k0 hk211
    replace hm203 := hm203.k0 hk211
    replace hm205 := hm205.k0 hk211
    replace hK0 := hK0.tn hk211
    replace ho195 := ho195.keep hk211 nk
    have qhb179_184 := hb179_184
    have qhm203 := hm203
    have qhm205 := hm205
    refine Ma 0 (Vt.cells ((GV.getC who ref s.cs).getD Vt.zero)) 6 qhb179_184 id (take_all (Vt.len _)) (Vt.len _) <| Gn [9, 10, 1, 2, 3, 4, 11, 0, 12, 13, 14] [9, 62, 65] <| Ma 1 [nt (((s.rc who ((q8).track))).got.v), nt (((s.rc who ((q8).track))).got.c)] 2 qhm205 id rfl rfl <| Hg (cvGain_spec ((GV.getC who ref s.cs).getD Vt.zero) (((s.rc who ((q8).track))).got) _) ?_
    rintro _ w219 ⟨rfl, hk220⟩
    have K221 := K216.tr (Keep.ofNone hk220)
    refine ⟨_, rfl, K221, ?_⟩
    have hzK221 := Keep.size K221
    have hsz222 := Keep.size hk220
    replace hK0 := hK0.tn hk220
    replace ho195 := ho195.keep hk220 nk
    refine Gn [4, 11, 0, 12, 13, 14] [9, 60, 67] <| Ma 1 [nt ((q8).t.a), nt ((q8).t.n), nt ((q8).t.s)] 3 qhm203 id rfl rfl <| Hg (cvSub_spec ((q8).t) (gainT ((GV.getC who ref s.cs).getD Vt.zero) (((s.rc who ((q8).track))).got)) _) ?_
    rintro _ w225 ⟨rfl, hk226⟩
    have K227 := K221.tr (Keep.ofNone hk226)
    refine ⟨_, rfl, K227, ?_⟩
    have hzK227 := Keep.size K227
    have hsz228 := Keep.size hk226
    replace hm203 := hm203.k0 (hk220.tr hk226)
    replace hK0 := hK0.tn hk226
    replace ho195 := ho195.keep hk226 nk
    refine Gn [14] [68, 70] <| GI_final 14 (by kernel_rfl) (by kernel_rfl) <| Sg 1 (Tly.cells (subT ((q8).t) (gainT ((GV.getC who ref s.cs).getD Vt.zero) (((s.rc who ((q8).track))).got)))) hm203 (Tly.len _) (Tly.one _) ?_
    intro w229 hn232 hk230 hz231
    replace hn232 : Blk w229 b8 (PollS.cells { q8 with t := (subT ((q8).t) (gainT ((GV.getC who ref s.cs).getD Vt.zero) (((s.rc who ((q8).track))).got))) }) 89 := hn232
    have hsz233 := Keep.size hk230
    replace hK0 := Keep.fresh hK0 hk230 (fun i hi hs => by have hs : F194 i := (by rw [show i = b8 from hs]; exact hF204); rcases rel200 i hs with h | h; exact h; (exfalso; omega))
    obtain ⟨tv235, htv235⟩ : ∃ t9 : Tly, t9 = (subT ((q8).t) (gainT ((GV.getC who ref s.cs).getD Vt.zero) (((s.rc who ((q8).track))).got))) := ⟨_, rfl⟩
    rw [← htv235] at hn232
    have ho234 := Vot.setPoll ho195 hqb8w159 hps8 hk230 (show Blk _ _ (PollS.cells { q8 with t := tv235 }) _ from hn232)
    have hs236 : (({ s with cs := GV.delC who ref s.cs }).setP i8 { q8 with t := tv235 }).ps[i8]? = some (some { q8 with t := tv235 }) := List.getElem?_set_self (List.getElem?_eq_some_iff.1 hps8).1
    have hb8lt := hn232.lt
    refine OI_end rfl <| X_block <| X_then <| Vn [8] <| V_ret ?_
    have hE237 : unvE s who ref = 0 := by unfold unvE; rw [if_neg (fun h9 => h9 hc6)]; rw [hpa8]; dsimp only; rw [if_pos (show (GV.getC who ref s.cs).isSome = true from by simpa using hc186)]
    exact Xr (nt 0) ⟨by rw [hE237], ⟨F194, ⟨_, by rw [show unvS s who ref now = (({ s with cs := GV.delC who ref s.cs }).setP i8 { q8 with t := tv235 }) from by unfold unvS; rw [hE237, if_pos rfl, hpa8]; dsimp only; rw [if_pos hc210, show ref.toNat = i8 from by rw [hpr8]; exact Int.toNat_natCast _, htv235]]; exact ho234⟩, rel200⟩, hK0⟩
   refine V_seq <| Vd1 (acts [5]) none_ [0, 1, 2, 3, 4, 5, 6] fun w239 hk238 he240 K243 _ => ?_
   replace hb179_184 := hb179_184.k0 hk238
   replace hm203 := hm203.k0 hk238
   replace hK0 := hK0.tn hk238
   replace ho195 := ho195.keep hk238 nk
   have qhb179_184 := hb179_184
   have qhm203 := hm203
   refine Ma 0 (Vt.cells ((GV.getC who ref s.cs).getD Vt.zero)) 6 qhb179_184 id (take_all (Vt.len _)) (Vt.len _) <| Gn [4, 5, 6] [3, 9, 10, 11, 72, 75] <| Mr 4 (nt ((q8).state)) qhm203 <| Hg (won_spec ((GV.getC who ref s.cs).getD Vt.zero) ((q8).state) _) ?_
   rintro _ w246 ⟨rfl, hk247⟩
   have K248 := K243.tr (Keep.ofNone hk247)
   refine ⟨_, rfl, K248, ?_⟩
   have hzK248 := Keep.size K248
   have hsz249 := Keep.size hk247
   replace hb179_184 := hb179_184.k0 hk247
   replace hm203 := hm203.k0 hk247
   replace hm205 := hm205.k0 (hk238.tr hk247)
   replace hK0 := hK0.tn hk247
   replace ho195 := ho195.keep hk247 nk
   refine Gn [] [3, 9, 10, 11, 71] <| GI_end <| X_then <| Vb (wonV ((GV.getC who ref s.cs).getD Vt.zero) ((q8).state)) (fun hc250 => ?_) (fun hc250 => ?_)
   ·
    refine Vd1 (acts [7, 12]) none_ [5, 6, 7, 0, 1, 2, 3, 4, 8, 9, 10, 11, 12] fun w252 hk251 he253 K256 _ => ?_
    replace hb179_184 := hb179_184.k0 hk251
    replace hm203 := hm203.k0 hk251
    replace hm205 := hm205.k0 hk251
    replace hK0 := hK0.tn hk251
    replace ho195 := ho195.keep hk251 nk
    have qhb179_184 := hb179_184
    have qhm203 := hm203
    refine Gn [6, 7, 0, 1, 2, 3, 4, 8, 9, 10, 11, 12] [3, 9, 10, 11, 83] <| Mr 2 (nt (((GV.getC who ref s.cs).getD Vt.zero).level)) qhb179_184 <| Hq K256 (cvPeriod_spec (((GV.getC who ref s.cs).getD Vt.zero).level) 8 _ (lev_ok hinv (show (GV.getC who ref s.cs).isSome = true from by simpa using hc186) hc250)) <| Gn [4, 8, 9, 10, 11, 12] [3, 11, 78, 81, 85] <| Mr 5 (nt ((q8).stop)) qhm203 <| Gn [10, 11, 12] [3, 78, 86, 87] <| Mr 3 (nt (((GV.getC who ref s.cs).getD Vt.zero).a)) qhb179_184 <| Gn [12] [78, 86, 88, 89] <| GI_final 12 (by kernel_rfl) (by kernel_rfl) <| Kg (joins_spec q149 (some ⟨bd207, 0, none⟩) (s.rc who ((q8).track)) (i64.wrap (((q8).stop) + (cvPeriod (((GV.getC who ref s.cs).getD Vt.zero).level) 8))) (((GV.getC who ref s.cs).getD Vt.zero).a) now _ hm205) ?_
    rintro _ w264 ⟨rfl, hn266, hk265⟩
    refine ⟨_, rfl, ?_⟩
    have hsz267 := Keep.size hk265
    replace hK0 := Keep.fresh hK0 hk265 (fun i hi hs => by have hs : F194 i := (by rw [show i = q149 from hs]; exact hF206); rcases rel200 i hs with h | h; exact h; (exfalso; omega))
    have ho268 := Vot.setRec (a := who) (t := ((q8).track)) (r' := (joinR (s.rc who ((q8).track)) (i64.wrap (((q8).stop) + (cvPeriod (((GV.getC who ref s.cs).getD Vt.zero).level) 8))) (((GV.getC who ref s.cs).getD Vt.zero).a) now)) (dp := (some ⟨bd207, 0, none⟩)) (dp' := (some ⟨bd207, 0, none⟩)) ho195 hgc154 hm205 hk265 (show Blk _ _ (RecS.cells (some ⟨bd207, 0, none⟩) (joinR (s.rc who ((q8).track)) (i64.wrap (((q8).stop) + (cvPeriod (((GV.getC who ref s.cs).getD Vt.zero).level) 8))) (((GV.getC who ref s.cs).getD Vt.zero).a) now)) _ from hn266) (.inl ⟨rfl, by first | rfl | exact joinR_d _ _ _ _ | (rw [show ({ s with cs := GV.delC who ref s.cs }).rc who ((q8).track) = (s.rc who ((q8).track)) from rfl]) | (rw [show ({ s with cs := GV.delC who ref s.cs }).rc who ((q8).track) = (s.rc who ((q8).track)) from rfl]; exact joinR_d _ _ _ _)⟩)
    obtain ⟨r269, hr269⟩ : ∃ r9 : RecS, r9 = (joinR (s.rc who ((q8).track)) (i64.wrap (((q8).stop) + (cvPeriod (((GV.getC who ref s.cs).getD Vt.zero).level) 8))) (((GV.getC who ref s.cs).getD Vt.zero).a) now) := ⟨_, rfl⟩
    replace hn266 : Blk w264 q149 (RecS.cells (some ⟨bd207, 0, none⟩) r269) 99 := by rw [hr269]; exact hn266
    have hq149lt := hn266.lt
    refine OI_end rfl <| X_block <| X_then <| Vn [8] <| V_ret ?_
    have hE270 : unvE s who ref = 0 := by unfold unvE; rw [if_neg (fun h9 => h9 hc6)]; rw [hpa8]; dsimp only; rw [if_pos (show (GV.getC who ref s.cs).isSome = true from by simpa using hc186)]
    exact Xr (nt 0) ⟨by rw [hE270], ⟨F194, ⟨_, by rw [show unvS s who ref now = (({ s with cs := GV.delC who ref s.cs }).setR who ((q8).track) (joinR (s.rc who ((q8).track)) (i64.wrap (((q8).stop) + (cvPeriod (((GV.getC who ref s.cs).getD Vt.zero).level) 8))) (((GV.getC who ref s.cs).getD Vt.zero).a) now)) from by unfold unvS; rw [hE270, if_pos rfl, hpa8]; dsimp only; rw [if_neg hc210]; rw [if_pos hc250]]; exact ho268⟩, rel200⟩, hK0⟩
   refine V_skip <| X_block <| X_then <| Vn [8] <| V_ret ?_
   have hE271 : unvE s who ref = 0 := by unfold unvE; rw [if_neg (fun h9 => h9 hc6)]; rw [hpa8]; dsimp only; rw [if_pos (show (GV.getC who ref s.cs).isSome = true from by simpa using hc186)]
   exact Xr (nt 0) ⟨by rw [hE271], ⟨F194, ⟨_, by rw [show unvS s who ref now = ({ s with cs := GV.delC who ref s.cs }) from by unfold unvS; rw [hE271, if_pos rfl, hpa8]; dsimp only; rw [if_neg hc210]; rw [if_neg (by rw [hc250]; decide)]]; exact ho195⟩, rel200⟩, hK0⟩
end Go.Al
namespace Go.Al
open Go Go.RowKit Go.Proofs
theorem unvote_specT (F : Nat → Prop) (v : Nat) (s : VS) (who ref now : Int) (w : World) (h : VotT F w v s) : Calls Tryz.prog 25 #[pt v, nt who, nt ref, nt now] w fun e w' => e = .returned (nt (unvE s who ref)) ∧ (∃ F', VotT F' w' v (unvS s who ref now) ∧ (∀ q, F' q → F q ∨ w.heap.size ≤ q)) ∧ Keep F w w' := by
  obtain ⟨h, ht⟩ := h
  refine ((let ⟨P, h⟩ := h; unvote_at F v P s who ref now w h ht)).mono ?_
  rintro e w' ⟨rfl, ⟨F', h1, h3⟩, hk⟩
  exact ⟨rfl, ⟨F', ⟨h1, ht.unvS _ _ _⟩, h3⟩, hk⟩
end Go.Al
