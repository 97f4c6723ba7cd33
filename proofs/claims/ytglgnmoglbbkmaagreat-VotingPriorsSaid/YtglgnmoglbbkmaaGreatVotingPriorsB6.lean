/-
  Put together out of 6 texts: Package voting: Unvote. Walks of package voting: what is told of records. Package voting: what is told of records. Walks of package voting: Unlock. Package voting: Unlock. Walks of the laws of voting: what stays locked.
-/
import Derived.Test.YtglgnmoglbbkmaaGreatVotingPriorsB5
namespace Go.Al
open Go Go.RowKit Go.Proofs
theorem unvote_specT (F : Nat → Prop) (v : Nat) (s : VS) (who ref now : Int) (w : World) (h : VotT F w v s) : Calls Tryz.prog 25 #[.pointer (some ⟨v, 0, none⟩), .int .i64 who, .int .i64 ref, .int .i64 now] w fun e w' => e = .returned (.int .i64 (unvE s who ref)) ∧ (∃ F', VotT F' w' v (unvS s who ref now) ∧ (∀ q, F' q → F q ∨ w.heap.size ≤ q)) ∧ Keep F w w' := by
  obtain ⟨h, ht⟩ := h
  refine ((let ⟨P, h⟩ := h; unvote_at F v P s who ref now w h ht)).mono ?_
  rintro e w' ⟨rfl, ⟨F', h1, h3⟩, hk⟩
  exact ⟨rfl, ⟨F', ⟨h1, ht.unvS _ _ _⟩, h3⟩, hk⟩
end Go.Al


namespace Go.Al
open Go Go.RowKit Go.Proofs
end Go.Al


namespace Go.Al
open Go Go.RowKit Go.Proofs
end Go.Al


namespace Go.Al
open Go Go.RowKit Go.Proofs
set_option maxRecDepth 10000 in
set_option maxHeartbeats 1000000 in
theorem unlock_at (F G : Nat → Prop) (v l : Nat) (P : VP) (s : VS) (xs : List Acc) (cs : List Ci) (who t now : Int) (w : World) (h : Vot F w v P s) (hl : Led G w l xs cs) (hdis : ∀ q, F q → ¬ G q) (hmax : cs.length < 100000) : Calls Tryz.prog 28 #[.pointer (some ⟨v, 0, none⟩), .pointer (some ⟨l, 0, none⟩), .int .i64 who, .int .i64 t, .int .i64 now] w fun e w' => e = .returned (.int .i64 (unlE who t)) ∧ (∃ F' G', VotE F' w' v (unlS s who t now) ∧ Led G' w' l xs (unlC cs s who t now) ∧ (∀ q, F' q → F q ∨ w.heap.size ≤ q) ∧ (∀ q, G' q → G q ∨ w.heap.size ≤ q) ∧ (∀ q, F' q → ¬ G' q)) ∧ Keep (fun q => F q ∨ G q) w w' := by
 have hFlt := Vot.lt h
 have hvlt := hFlt _ (Vot.at_ h)
 have hFo : ∀ q, F q → 0 ≤ q := fun q _ => Nat.zero_le q
 have hFr : ∀ q, F q → F q ∨ w.heap.size ≤ q := fun _ h => .inl h
 have hGlt := Led.lt hl
 have hllt := hGlt _ (Led.at_ hl)
 have hGo : ∀ q, G q → 0 ≤ q := fun q _ => Nat.zero_le q
 have hGr : ∀ q, G q → G q ∨ w.heap.size ≤ q := fun _ h => .inl h
 have hK0 : Keep (fun q => F q ∨ G q) w w := Keep.refl _ _
 have hzhK0 := Keep.size hK0
 refine enterM Tryz.func28 rfl [pt v, pt l, nt who, nt t, nt now] 80 rfl rfl rfl ?_
 refine V_pick [(0, pt v), (1, pt l), (2, nt who), (3, nt t), (4, nt now)] rfl ?_
 refine V_seq ?_
 refine V_region ?_
 refine OI_static 1 [(0, pt v), (1, pt l), (2, nt who), (3, nt t), (4, nt now), (10, nt 0)] (by kernel_rfl) ?_
 refine OI_end rfl ?_
 refine X_then ?_
 refine V_seq ?_
 refine V_seq ?_
 refine V_region ?_
 refine OI_static 8 [(0, pt v), (1, pt l), (2, nt who), (3, nt t), (4, nt now), (10, nt 0), (21, .bool false), (22, nt who)] (by kernel_rfl) ?_
 refine OI_call { callee := (Callee.value (Operand.func 47)), args := #[(Operand.tmp 22)], argTypes := #[3] } 47 #[nt who] (some 23) (by kernel_rfl) (by kernel_rfl) (by kernel_rfl) (isAcc_spec who _) ?_
 rintro _ w ⟨rfl, rfl⟩
 refine ⟨_, rfl, ?_⟩
 refine OI_static 12 [(0, pt v), (1, pt l), (2, nt who), (3, nt t), (4, nt now), (10, nt 0), (26, .bool (!(decide (0 ≤ who ∧ who ≤ 9))))] (by kernel_rfl) ?_
 by_cases hg6 : 0 ≤ who ∧ who ≤ 9
 ·
  refine OI_eq [(0, pt v), (1, pt l), (2, nt who), (3, nt t), (4, nt now), (10, nt 0), (26, .bool false)] (by first | simp [hg6] | rfl) ?_
  refine OI_static 13 [(0, pt v), (1, pt l), (2, nt who), (3, nt t), (4, nt now), (10, nt 0), (26, .bool false), (27, nt t)] (by kernel_rfl) ?_
  refine OI_call { callee := (Callee.value (Operand.func 45)), args := #[(Operand.tmp 27)], argTypes := #[3] } 45 #[nt t] (some 28) (by kernel_rfl) (by kernel_rfl) (by kernel_rfl) (isTrk_spec t _) ?_
  rintro _ w ⟨rfl, rfl⟩
  refine ⟨_, rfl, ?_⟩
  refine OI_static 16 [(0, pt v), (1, pt l), (2, nt who), (3, nt t), (4, nt now), (10, nt 0), (30, .bool (!(decide (0 ≤ t ∧ t ≤ 3))))] (by kernel_rfl) ?_
  refine OI_end rfl ?_
  refine X_then ?_
  refine V_not (0 ≤ t ∧ t ≤ 3) (by kernel_rfl) (fun hc12 => ?_) (fun hc12 => ?_)
  ·
   refine V_seq ?_
   refine V_region ?_
   refine OI_static 1 [(10, nt 1)] (by kernel_rfl) ?_
   refine OI_end rfl ?_
   refine X_then ?_
   refine V_ret ?_
   refine X_ret_then ?_
   have hE13 : unlE who t = 1 := by unfold unlE; rw [if_pos (.inr (hc12))]
   exact leave0 (nt 1) (.inl rfl) (res_tmps rfl) (⟨by rw [hE13], ⟨F, G, ⟨_, by rw [show unlS s who t now = s from by unfold unlS; rw [if_neg (by rw [hE13]; rintro ⟨h9, _⟩; cases h9)]]; exact h⟩, by rw [show unlC cs s who t now = cs from by unfold unlC; rw [if_neg (by rw [hE13]; decide)]]; exact hl, hFr, hGr, hdis⟩, hK0⟩)
  ·
   refine V_skip ?_
   refine X_then ?_
   refine V_seq ?_
   refine V_region ?_
   refine OI_static 3 [(0, pt v), (1, pt l), (2, nt who), (3, nt t), (4, nt now), (10, nt 0), (31, pt v), (32, nt who), (33, nt t)] (by kernel_rfl) ?_
   rcases hd14 : (s.rc who t).d with _ | d15
   ·
    refine OI_call { callee := (Callee.value (Operand.func 48)), args := #[(Operand.tmp 31), (Operand.tmp 32), (Operand.tmp 33)], argTypes := #[31, 3, 3] } 48 #[pt v, nt who, nt t] (some 34) (by kernel_rfl) (by kernel_rfl) (by kernel_rfl) (record_spec F v P s who t _ h (by omega) (by omega)) ?_
    rintro _ w30 ⟨q20, P21, rfl, hgc25, hpp26, hgv27, hmn28, hdl29, ⟨F22, ho23, hfr24⟩, hk31⟩
    refine ⟨_, rfl, ?_⟩
    have hsz32 := Keep.size hk31
    replace hl := Led.keep hl hk31 (fun q hq hs => hdis q hs hq)
    replace hK0 := Keep.fresh hK0 hk31 (fun i hi hs => by rcases hFr i hs with h | h; exact .inl h; (exfalso; omega))
    have own34 : ∀ q, F22 q → 0 ≤ q := fun q hq => by rcases hfr24 q hq with h | h; (have h1 := hFo q h; have h2 := hFlt q h; omega); omega
    have lt33 := Vot.lt ho23
    have rel35 : ∀ q, F22 q → F q ∨ w.heap.size ≤ q := fun q hq => by rcases hfr24 q hq with h | h; exact hFr q h; exact .inr (by omega)
    have dis36 : ∀ q, F22 q → ¬ G q := fun q h1 h2 => by rcases hfr24 q h1 with h | h; exact hdis q h h2; (have h4 := hGlt q h2; omega)
    have hgq20lt := lt33 _ (Vot.at_ ho23)
    obtain ⟨hF38, hm37⟩ := Vot.recN ho23 hgc25 hd14
    have hq20lt := hm37.lt
    have hloq20 := lt33 _ hF38
    have hoq20 := own34 _ hF38
    refine OI_static 5 [(0, pt v), (1, pt l), (2, nt who), (3, nt t), (4, nt now), (10, nt 0), (11, pt q20)] (by kernel_rfl) ?_
    refine OI_end rfl ?_
    refine X_then ?_
    refine V_seq ?_
    refine V_seq ?_
    refine V_region ?_
    refine OI_static 3 [(0, pt v), (1, pt l), (2, nt who), (3, nt t), (4, nt now), (10, nt 0), (11, pt q20), (37, .pointer (some ⟨q20, 3, none⟩))] (by kernel_rfl) ?_
    refine OI_cell 3 (.tmp 37) 3 (nt (((s.rc who t)).till)) (some 38) (by kernel_rfl) (by kernel_rfl) hm37 (m := 1) (by kernel_rfl) rfl ?_
    refine OI_static 6 [(0, pt v), (1, pt l), (2, nt who), (3, nt t), (10, nt 0), (11, pt q20), (40, .bool (decide (((s.rc who t)).till ≤ now)))] (by kernel_rfl) ?_
    refine OI_end rfl ?_
    refine X_then ?_
    refine V_if (((s.rc who t)).till ≤ now) (by kernel_rfl) (fun hc39 => ?_) (fun hc39 => ?_)
    ·
     refine V_region ?_
     refine OI_static 4 [(0, pt v), (1, pt l), (2, nt who), (3, nt t), (10, nt 0), (11, pt q20), (42, pt q20), (44, .pointer (some ⟨q20, 3, none⟩))] (by kernel_rfl) ?_
     refine OI_set (m := 1) (kd := false) 3 (.tmp 44) (.const (Value.int IntKind.i64 0)) 3 (nt 0) [nt 0] none (by kernel_rfl) (by kernel_rfl) (by kernel_rfl) hm37 (by kernel_rfl) (by kernel_rfl) (by kernel_rfl) (Nat.le_of_ble_eq_true (by kernel_rfl)) (by simp [Value.oneCell']) ?_
     intro w40 hn43 hk41 hz42
     replace hn43 : Blk w40 q20 [.pointer none, nt (((s.rc who t)).got.v), nt (((s.rc who t)).got.c), nt 0, nt (((s.rc who t)).n)] 99 := hn43
     have hsz44 := Keep.size hk41
     replace hl := Led.keep hl hk41 (fun q hq hs => (fun q h1 h2 => dis36 q h2 h1) q hq (by rw [show q = q20 from hs]; exact hF38))
     replace hK0 := Keep.fresh hK0 hk41 (fun i hi hs => by have hs : F22 i := (by rw [show i = q20 from hs]; exact hF38); rcases rel35 i hs with h | h; exact .inl h; (exfalso; omega))
     have ho45 := Vot.setRec (a := who) (t := t) (r' := { (s.rc who t) with till := 0 }) (dp := none) (dp' := none) ho23 hgc25 hm37 hk41 (show Blk _ _ (RecS.cells none { (s.rc who t) with till := 0 }) _ from hn43) (.inl ⟨rfl, by first | rfl | exact joinR_d _ _ _ _ | (rw [show s.rc who t = (s.rc who t) from rfl]) | (rw [show s.rc who t = (s.rc who t) from rfl]; exact joinR_d _ _ _ _)⟩)
     obtain ⟨r46, hr46⟩ : ∃ r9 : RecS, r9 = { (s.rc who t) with till := 0 } := ⟨_, rfl⟩
     replace hn43 : Blk w40 q20 (RecS.cells none r46) 99 := by rw [hr46]; exact hn43
     have hq20lt := hn43.lt
     refine OI_static 7 [(0, pt v), (1, pt l), (2, nt who), (3, nt t), (10, nt 0), (11, pt q20), (46, .pointer (some ⟨q20, 4, none⟩))] (by kernel_rfl) ?_
     refine OI_set (m := 1) (kd := false) 3 (.tmp 46) (.const (Value.int IntKind.i64 0)) 4 (nt 0) [nt 0] none (by kernel_rfl) (by kernel_rfl) (by kernel_rfl) hn43 (by kernel_rfl) (by kernel_rfl) (by kernel_rfl) (Nat.le_of_ble_eq_true (by kernel_rfl)) (by simp [Value.oneCell']) ?_
     intro w47 hn50 hk48 hz49
     replace hn50 : Blk w47 q20 [.pointer none, nt ((r46).got.v), nt ((r46).got.c), nt ((r46).till), nt 0] 99 := hn50
     have hsz51 := Keep.size hk48
     replace hl := Led.keep hl hk48 (fun q hq hs => (fun q h1 h2 => dis36 q h2 h1) q hq (by rw [show q = q20 from hs]; exact hF38))
     replace hK0 := Keep.fresh hK0 hk48 (fun i hi hs => by have hs : F22 i := (by rw [show i = q20 from hs]; exact hF38); rcases rel35 i hs with h | h; exact .inl h; (exfalso; omega))
     have ho52 := Vot.setRec (a := who) (t := t) (r' := { r46 with n := 0 }) (dp := none) (dp' := none) ho45 hgc25 (by rw [show (s.setR who t { (s.rc who t) with till := 0 }).rc who t = r46 from ((updR_self _ _ _ _).trans hr46.symm)]; exact hn43) hk48 (show Blk _ _ (RecS.cells none { r46 with n := 0 }) _ from hn50) (.inl ⟨rfl, by first | rfl | exact joinR_d _ _ _ _ | (rw [show (s.setR who t { (s.rc who t) with till := 0 }).rc who t = r46 from ((updR_self _ _ _ _).trans hr46.symm)]) | (rw [show (s.setR who t { (s.rc who t) with till := 0 }).rc who t = r46 from ((updR_self _ _ _ _).trans hr46.symm)]; exact joinR_d _ _ _ _)⟩)
     obtain ⟨r53, hr53⟩ : ∃ r9 : RecS, r9 = { r46 with n := 0 } := ⟨_, rfl⟩
     replace hn50 : Blk w47 q20 (RecS.cells none r53) 99 := by rw [hr53]; exact hn50
     have hq20lt := hn50.lt
     refine OI_end rfl ?_
     refine X_then ?_
     refine V_seq ?_
     refine V_region ?_
     refine OI_static 3 [(0, pt v), (1, pt l), (2, nt who), (3, nt t), (10, nt 0), (11, pt q20), (49, .pointer (some ⟨q20, 4, none⟩))] (by kernel_rfl) ?_
     refine OI_cell 3 (.tmp 49) 4 (nt ((r53).n)) (some 50) (by kernel_rfl) (by kernel_rfl) hn50 (m := 1) (by kernel_rfl) rfl ?_
     refine OI_alloc 3 (nt 0) [nt 0] (some 12) (by kernel_rfl) (by kernel_rfl) (by kernel_rfl) ?_
     intro b54 w54 e54 hb54 k54 z54
     have hsz55 := Keep.size k54
     replace hn50 := hn50.keep k54 (fun f => f)
     replace hl := Led.keep hl k54 (fun _ _ f => f)
     replace hK0 := Keep.tr hK0 (Keep.ofNone k54)
     replace ho52 := Vot.keep ho52 k54 (fun _ _ f => f)
     have hb54lt := hb54.lt
     refine OI_set (m := 1) (kd := false) 3 (.tmp 12) (.tmp 50) 0 (nt ((r53).n)) [nt ((r53).n)] none (by kernel_rfl) (by kernel_rfl) (by kernel_rfl) hb54 (by kernel_rfl) (by kernel_rfl) (by kernel_rfl) (Nat.le_of_ble_eq_true (by kernel_rfl)) (by simp [Value.oneCell']) ?_
     intro w56 hb54_59 hk57 hz58
     replace hb54_59 : Blk w56 b54 [nt ((r53).n)] 3 := hb54_59
     have hsz60 := Keep.size hk57
     replace hn50 := hn50.keep hk57 (by show ¬ (_ = _); omega)
     replace hl := Led.keep hl hk57 (fun q hq hs => by have hs : q = b54 := hs; have g0 := hGo q hq; have g1 := hGlt q hq; omega)
     replace hK0 := Keep.fresh hK0 hk57 (by intro i hi hs; first | exact hs | exact Or.inl hs | exact Or.inr hs | (exfalso; have hs2 : i = b54 := hs; omega))
     replace ho52 := Vot.keep ho52 hk57 (fun q hq hs => by have hs : q = b54 := hs; have g0 := own34 q hq; have g1 := lt33 q hq; omega)
     refine OI_end rfl ?_
     refine X_then ?_
     refine V_seq ?_
     refine V_seq ?_
     refine V_region ?_
     refine OI_static 3 [(1, pt l), (2, nt who), (3, nt t), (10, nt 0), (11, pt q20), (12, pt b54), (51, pt v), (52, nt who), (53, nt t)] (by kernel_rfl) ?_
     refine OI_call { callee := (Callee.value (Operand.func 60)), args := #[(Operand.tmp 51), (Operand.tmp 52), (Operand.tmp 53)], argTypes := #[31, 3, 3] } 60 #[pt v, nt who, nt t] (some 54) (by kernel_rfl) (by kernel_rfl) (by kernel_rfl) (votesfn_spec _ rfl who t _) ?_
     rintro _ w65 ⟨bv67, bw68, bt69, rfl, hbv67, hbw68, hbt69, hk66, hgebv67, hgebw68, hgebt69⟩
     refine ⟨_, rfl, ?_⟩
     have hsz70 := Keep.size hk66
     replace hn50 := hn50.keep hk66 (fun f => f)
     replace hb54_59 := hb54_59.keep hk66 (fun f => f)
     replace hl := Led.keep hl hk66 (fun _ _ f => f)
     replace hK0 := Keep.tr hK0 (Keep.ofNone hk66)
     replace ho52 := Vot.keep ho52 hk66 (fun _ _ f => f)
     have hbv67lt := hbv67.lt
     have hbw68lt := hbw68.lt
     have hbt69lt := hbt69.lt
     refine OI_end rfl ?_
     refine X_then ?_
     refine V_block ?_
     obtain ⟨A71, cap71, hva71⟩ := Vot.arr ho52
     have hal71 := VotA.lenA hva71
     have hvr9 : vrow ((s.setR who t { (s.rc who t) with till := 0 }).setR who t { r46 with n := 0 }) who t = vrow s who t := rfl
     have hvl9 := vrow_len ((s.setR who t { (s.rc who t) with till := 0 }).setR who t { r46 with n := 0 }) who t
     refine V_pick [(1, pt l), (2, nt who), (3, nt t), (11, pt q20), (12, pt b54), (54, .func (.func 94) #[] #[pt bv67, pt bw68, pt bt69])] rfl ?_
     have hN0 : w.heap.size ≤ w65.heap.size := Keep.size hK0
     refine V_range2 (gf := 94) (caps := #[pt bv67, pt bw68, pt bt69]) (m := (vrow ((s.setR who t { (s.rc who t) with till := 0 }).setR who t { r46 with n := 0 }) who t).length) (by kernel_rfl) (by kernel_rfl) (by kernel_rfl) (votes1_iter bv67 bw68 bt69 v P21.gv P21.gr cap71 P21.pp A71 ((s.setR who t { (s.rc who t) with till := 0 }).setR who t { r46 with n := 0 }) who t (by omega)) (⟨VotA.grat hva71, VotA.ok hva71 rfl (fun _ => rfl) hbv67 hbw68 hbt69⟩) (fun W W' h k => ⟨h.1.quiet k, h.2.quiet k⟩) (GV.enc2_size _) (fun M1 k W => (Blk W q20 [.pointer none, nt ((r53).got.v), nt ((r53).got.c), nt ((r53).till), nt ((r53).n)] 99) ∧ (Blk W bv67 [pt v] 31) ∧ (Blk W bw68 [nt who] 3) ∧ (Blk W bt69 [nt t] 3) ∧ (Led G W l xs cs) ∧ (Keep (fun q => F q ∨ G q) w W) ∧ (VotA A71 cap71 F22 W v P21 ((s.setR who t { (s.rc who t) with till := 0 }).setR who t { r46 with n := 0 })) ∧ (Blk W b54 [nt (mostL ((r53).n) ((vrow ((s.setR who t { (s.rc who t) with till := 0 }).setR who t { r46 with n := 0 }) who t).take k))] 3)) (fun M1 c k W => False) (fun M1 k W W' h hk => by obtain ⟨jq20, jbv67, jbw68, jbt69, jhl, jhK0, jhva71, jb54⟩ := h; exact ⟨jq20.quiet hk, jbv67.quiet hk, jbw68.quiet hk, jbt69.quiet hk, Led.quiet jhl hk, jhK0.quiet hk (by omega), VotA.quiet jhva71 hk, jb54.quiet hk⟩) (fun _ _ _ _ _ h _ => h.elim) (fun M1 hM1 => ⟨hn50, hbv67, hbw68, hbt69, hl, hK0, hva71, hb54_59⟩) (fun M1 k W h => by obtain ⟨jq20, jbv67, jbw68, jbt69, jhl, jhK0, jhva71, jb54⟩ := h; exact (VotA.ok jhva71 rfl (fun _ => rfl) jbv67 jbw68 jbt69)) ?_ ?_ (fun _ _ _ _ _ _ _ _ h _ => h.elim)
     ·
      intro lp D M1 k W hD hl hM hMW hkm ⟨jq20, jbv67, jbw68, jbt69, jhl, jhK0, jhva71, jb54⟩ ⟨rr, hrr⟩ hDD
      have hzjhK0 := Keep.size jhK0
      have hq20lt := jq20.lt
      have hb54lt := jb54.lt
      have hbv67lt := jbv67.lt
      have hbw68lt := jbw68.lt
      have hbt69lt := jbt69.lt
      obtain ⟨x, hx⟩ : ∃ x, (vrow ((s.setR who t { (s.rc who t) with till := 0 }).setR who t { r46 with n := 0 }) who t)[k]? = some x := ⟨_, List.getElem?_eq_getElem (by omega)⟩
      rw [GV.enc2_at hx]
      refine V_pick [(12, pt b54), (56, .agg (Vt.cells x.2).toArray)] rfl ?_
      have hfen : Keep (fen w65.heap.size M1) W W := Keep.refl _ _
      have hzhfen := Keep.size hfen
      refine V_region ?_
      refine OI_alloc 23 (.agg #[nt 0, .bool false, nt 0, nt 0, nt 0, nt 0]) [nt 0, .bool false, nt 0, nt 0, nt 0, nt 0] (some 14) (by kernel_rfl) (by kernel_rfl) (by kernel_rfl) ?_
      intro b72 w72 e72 hb72 k72 z72
      have hsz73 := Keep.size k72
      replace jq20 := jq20.keep k72 (fun f => f)
      replace jb54 := jb54.keep k72 (fun f => f)
      replace jbv67 := jbv67.keep k72 (fun f => f)
      replace jbw68 := jbw68.keep k72 (fun f => f)
      replace jbt69 := jbt69.keep k72 (fun f => f)
      replace jhl := Led.keep jhl k72 (fun _ _ f => f)
      replace jhK0 := Keep.tr jhK0 (Keep.ofNone k72)
      replace jhva71 := VotA.keep jhva71 k72 (fun _ _ f => f)
      replace hfen := Keep.tr hfen (Keep.ofNone k72)
      have hb72lt := hb72.lt
      refine OI_set (m := 6) (kd := true) 23 (.tmp 14) (.tmp 56) 0 (.agg (Vt.cells x.2).toArray) (Vt.cells x.2) none (by kernel_rfl) (by kernel_rfl) (by kernel_rfl) hb72 (by kernel_rfl) rfl (Vt.len _) (Nat.le_of_ble_eq_true (by kernel_rfl)) (Vt.one _) ?_
      intro w74 hb72_77 hk75 hz76
      replace hb72_77 : Blk w74 b72 (Vt.cells x.2) 23 := (by rwa [over_whole (by rw [Vt.len]; rfl)] at hb72_77)
      have hsz78 := Keep.size hk75
      replace jq20 := jq20.keep hk75 (by show ¬ (_ = _); omega)
      replace jb54 := jb54.keep hk75 (by show ¬ (_ = _); omega)
      replace jbv67 := jbv67.keep hk75 (by show ¬ (_ = _); omega)
      replace jbw68 := jbw68.keep hk75 (by show ¬ (_ = _); omega)
      replace jbt69 := jbt69.keep hk75 (by show ¬ (_ = _); omega)
      replace jhl := Led.keep jhl hk75 (fun q hq hs => by have hs : q = b72 := hs; have g0 := hGo q hq; have g1 := hGlt q hq; omega)
      replace jhK0 := Keep.fresh jhK0 hk75 (by intro i hi hs; first | exact hs | exact Or.inl hs | exact Or.inr hs | (exfalso; have hs2 : i = b72 := hs; omega))
      replace jhva71 := VotA.keep jhva71 hk75 (fun q hq hs => by have hs : q = b72 := hs; have g0 := own34 q hq; have g1 := lt33 q hq; omega)
      replace hfen := Keep.fresh hfen hk75 (by intro i hi hs; have hs2 : i = b72 := hs; show _ ∨ _; omega)
      refine OI_end rfl ?_
      refine X_begin2 hfen ?_
      intro W2 hk2 ⟨r2, hr2⟩ hD2
      have hsz79 := Keep.size hk2
      replace jq20 := Blk.quiet jq20 hk2
      replace jb54 := Blk.quiet jb54 hk2
      replace jbv67 := Blk.quiet jbv67 hk2
      replace jbw68 := Blk.quiet jbw68 hk2
      replace jbt69 := Blk.quiet jbt69 hk2
      replace hb72_77 := Blk.quiet hb72_77 hk2
      replace jhl := Led.quiet jhl hk2
      replace jhK0 := Keep.quiet jhK0 hk2 (by omega)
      replace jhva71 := VotA.quiet jhva71 hk2
      have hzhk2 := Keep.size hk2
      have hfenb : Keep (fen w65.heap.size M1) W2 W2 := Keep.refl _ _
      have hzhfenb := Keep.size hfenb
      refine V_block ?_
      refine V_draws (acts [2, 4]) none_ [[1, 2, 0, 3, 4]] (by kernel_rfl) (by repeat first | exact (by first | exact sure_postM | exact sure_rQ2 | exact sure_no) | refine sure_then ?_ | refine sure_block ?_ | refine sure_join ?_) (by kernel_rfl) ?_
      intro w81 hk80 he82 L hL83
      have hsz84 := Keep.size hk80
      replace jq20 := jq20.keep hk80 (fun f => f)
      replace jb54 := jb54.keep hk80 (fun f => f)
      replace jbv67 := jbv67.keep hk80 (fun f => f)
      replace jbw68 := jbw68.keep hk80 (fun f => f)
      replace jbt69 := jbt69.keep hk80 (fun f => f)
      replace hb72_77 := hb72_77.keep hk80 (fun f => f)
      replace jhl := Led.keep jhl hk80 (fun _ _ f => f)
      replace jhK0 := Keep.tr jhK0 (Keep.ofNone hk80)
      replace jhva71 := VotA.keep jhva71 hk80 (fun _ _ f => f)
      replace hfenb := Keep.tr hfenb (Keep.ofNone hk80)
      have qjq20 := jq20
      have qjb54 := jb54
      have qjbv67 := jbv67
      have qjbw68 := jbw68
      have qjbt69 := jbt69
      have qhb72_77 := hb72_77
      have K85 : Keep none_ w81 w81 := Keep.refl _ _
      obtain rfl := List.mem_singleton.1 hL83
      refine GI_agg 23 (.tmp 14) 0 (Vt.cells x.2) (some 58) (by kernel_rfl) (by kernel_rfl) (by kernel_rfl) qhb72_77 (fun f => f) (m := 6) (by kernel_rfl) (take_all (Vt.len _)) (Vt.len _) ?_
      refine GI_call { callee := (Callee.value (Operand.func 55)), args := #[(Operand.tmp 58)], argTypes := #[23] } 55 #[.agg (Vt.cells x.2).toArray] (some 59) (by kernel_rfl) (by kernel_rfl) (by kernel_rfl) (by kernel_rfl) (cvCapital_spec x.2 _) ?_
      rintro _ w88 ⟨rfl, hk89⟩
      have K90 := K85.tr (Keep.ofNone hk89)
      refine ⟨_, rfl, K90, ?_⟩
      have hzK90 := Keep.size K90
      have hsz91 := Keep.size hk89
      replace jq20 := jq20.keep hk89 (fun f => f)
      replace jb54 := jb54.keep hk89 (fun f => f)
      replace jbv67 := jbv67.keep hk89 (fun f => f)
      replace jbw68 := jbw68.keep hk89 (fun f => f)
      replace jbt69 := jbt69.keep hk89 (fun f => f)
      replace hb72_77 := hb72_77.keep hk89 (fun f => f)
      replace jhl := Led.keep jhl hk89 (fun _ _ f => f)
      replace jhK0 := Keep.tr jhK0 (Keep.ofNone hk89)
      replace jhva71 := VotA.keep jhva71 hk89 (fun _ _ f => f)
      replace hfenb := Keep.tr hfenb (Keep.ofNone hk89)
      refine GI_cell 3 (.tmp 12) 0 (nt (mostL ((r53).n) ((vrow ((s.setR who t { (s.rc who t) with till := 0 }).setR who t { r46 with n := 0 }) who t).take k))) (some 57) (by kernel_rfl) (by kernel_rfl) (by kernel_rfl) qjb54 (fun f => f) (m := 1) (by kernel_rfl) rfl ?_
      refine GI_static [4] [(12, pt b54), (60, nt (if capI x.2 > mostL ((r53).n) ((vrow ((s.setR who t { (s.rc who t) with till := 0 }).setR who t { r46 with n := 0 }) who t).take k) then capI x.2 else mostL ((r53).n) ((vrow ((s.setR who t { (s.rc who t) with till := 0 }).setR who t { r46 with n := 0 }) who t).take k)))] (by kernel_rfl) ?_
      refine GI_final 4 (by kernel_rfl) (by kernel_rfl) ?_
      refine OI_set (m := 1) (kd := false) 3 (.tmp 12) (.tmp 60) 0 (nt (if capI x.2 > mostL ((r53).n) ((vrow ((s.setR who t { (s.rc who t) with till := 0 }).setR who t { r46 with n := 0 }) who t).take k) then capI x.2 else mostL ((r53).n) ((vrow ((s.setR who t { (s.rc who t) with till := 0 }).setR who t { r46 with n := 0 }) who t).take k))) [nt (if capI x.2 > mostL ((r53).n) ((vrow ((s.setR who t { (s.rc who t) with till := 0 }).setR who t { r46 with n := 0 }) who t).take k) then capI x.2 else mostL ((r53).n) ((vrow ((s.setR who t { (s.rc who t) with till := 0 }).setR who t { r46 with n := 0 }) who t).take k))] none (by kernel_rfl) (by kernel_rfl) (by kernel_rfl) jb54 (by kernel_rfl) (by kernel_rfl) (by kernel_rfl) (Nat.le_of_ble_eq_true (by kernel_rfl)) (by simp [Value.oneCell']) ?_
      intro w92 hb54_95 hk93 hz94
      replace hb54_95 : Blk w92 b54 [nt (if capI x.2 > mostL ((r53).n) ((vrow ((s.setR who t { (s.rc who t) with till := 0 }).setR who t { r46 with n := 0 }) who t).take k) then capI x.2 else mostL ((r53).n) ((vrow ((s.setR who t { (s.rc who t) with till := 0 }).setR who t { r46 with n := 0 }) who t).take k))] 3 := hb54_95
      have hsz96 := Keep.size hk93
      replace jq20 := jq20.keep hk93 (by show ¬ (_ = _); omega)
      replace jbv67 := jbv67.keep hk93 (by show ¬ (_ = _); omega)
      replace jbw68 := jbw68.keep hk93 (by show ¬ (_ = _); omega)
      replace jbt69 := jbt69.keep hk93 (by show ¬ (_ = _); omega)
      replace hb72_77 := hb72_77.keep hk93 (by show ¬ (_ = _); omega)
      replace jhl := Led.keep jhl hk93 (fun q hq hs => by have hs : q = b54 := hs; have g0 := hGo q hq; have g1 := hGlt q hq; omega)
      replace jhK0 := Keep.fresh jhK0 hk93 (by intro i hi hs; first | exact hs | exact Or.inl hs | exact Or.inr hs | (exfalso; have hs2 : i = b54 := hs; omega))
      replace jhva71 := VotA.keep jhva71 hk93 (fun q hq hs => by have hs : q = b54 := hs; have g0 := own34 q hq; have g1 := lt33 q hq; omega)
      replace hfenb := Keep.fresh hfenb hk93 (by intro i hi hs; have hs2 : i = b54 := hs; show _ ∨ _; omega)
      refine OI_end rfl ?_
      refine X_block ?_
      exact fun a _ => ⟨hfenb, jq20, jbv67, jbw68, jbt69, jhl, jhK0, jhva71, by rw [mostL_step hx]; exact hb54_95⟩
     ·
      intro D M1 W hD hM ⟨jq20, jbv67, jbw68, jbt69, jhl, jhK0, jhva71, jb54⟩ hDD
      have hzjhK0 := Keep.size jhK0
      have hq20lt := jq20.lt
      have hb54lt := jb54.lt
      have hbv67lt := jbv67.lt
      have hbw68lt := jbw68.lt
      have hbt69lt := jbt69.lt
      have ho97 := VotA.vot jhva71
      rw [List.take_length] at jb54
      refine X_block ?_
      refine X_then ?_
      refine V_seq ?_
      refine V_seq ?_
      refine V_region ?_
      refine OI_static 3 [(1, pt l), (2, nt who), (3, nt t), (11, pt q20), (12, pt b54), (63, pt q20)] (by kernel_rfl) ?_
      refine OI_cell 97 (.tmp 63) 0 (.pointer none) (some 64) (by kernel_rfl) (by kernel_rfl) jq20 (m := 1) (by kernel_rfl) rfl ?_
      refine OI_static 5 [(1, pt l), (2, nt who), (3, nt t), (11, pt q20), (12, pt b54), (65, .bool false)] (by kernel_rfl) ?_
      refine OI_end rfl ?_
      refine X_then ?_
      refine V_false rfl ?_
      refine V_skip ?_
      refine X_then ?_
      refine V_seq ?_
      refine V_region ?_
      refine OI_static 3 [(12, pt b54), (75, pt l), (76, nt who), (77, nt t)] (by kernel_rfl) ?_
      refine OI_cell 3 (.tmp 12) 0 (nt (mostL ((r53).n) (vrow ((s.setR who t { (s.rc who t) with till := 0 }).setR who t { r46 with n := 0 }) who t))) (some 78) (by kernel_rfl) (by kernel_rfl) jb54 (m := 1) (by kernel_rfl) rfl ?_
      refine OI_call { callee := (Callee.value (Operand.func 66)), args := #[(Operand.tmp 75), (Operand.tmp 76), (Operand.tmp 77), (Operand.tmp 78)], argTypes := #[30, 3, 3, 3] } 66 #[pt l, nt who, nt t, nt (mostL ((r53).n) (vrow ((s.setR who t { (s.rc who t) with till := 0 }).setR who t { r46 with n := 0 }) who t))] (some 79) (by kernel_rfl) (by kernel_rfl) (by kernel_rfl) (lock_spec G l xs cs who t (mostL ((r53).n) (vrow ((s.setR who t { (s.rc who t) with till := 0 }).setR who t { r46 with n := 0 }) who t)) _ jhl hmax) ?_
      rintro _ w100 ⟨rfl, ⟨F102, ho103, hfr104⟩, hk101⟩
      refine ⟨_, rfl, ?_⟩
      have hsz105 := Keep.size hk101
      replace jb54 := jb54.keep hk101 (fun hs => by have h1 := hGo _ hs; have h2 := hGlt _ hs; omega)
      replace jbv67 := jbv67.keep hk101 (fun hs => by have h1 := hGo _ hs; have h2 := hGlt _ hs; omega)
      replace jbw68 := jbw68.keep hk101 (fun hs => by have h1 := hGo _ hs; have h2 := hGlt _ hs; omega)
      replace jbt69 := jbt69.keep hk101 (fun hs => by have h1 := hGo _ hs; have h2 := hGlt _ hs; omega)
      replace jhK0 := Keep.fresh jhK0 hk101 (fun i hi hs => by rcases hGr i hs with h | h; exact .inr h; (exfalso; omega))
      replace ho97 := Vot.keep ho97 hk101 (fun q hq hs => (fun q h1 h2 => dis36 q h2 h1) q hs hq)
      replace hDD := (Keep.block hk101 _ (Array.getElem?_eq_some_iff.1 hDD).1 (fun hs => by have h1 := hGo _ hs; have h2 := hGlt _ hs; omega)).trans hDD
      have own107 : ∀ q, F102 q → 0 ≤ q ∧ q ≠ b54 ∧ q ≠ bv67 ∧ q ≠ bw68 ∧ q ≠ bt69 := fun q hq => by rcases hfr104 q hq with h | h; (have h1 := hGo q h; have h2 := hGlt q h; omega); omega
      have lt106 := Led.lt ho103
      have rel108 : ∀ q, F102 q → G q ∨ w.heap.size ≤ q := fun q hq => by rcases hfr104 q hq with h | h; exact hGr q h; exact .inr (by omega)
      have dis109 : ∀ q, F102 q → ¬ F22 q := fun q h1 h2 => by rcases hfr104 q h1 with h | h; exact (fun q h1 h2 => dis36 q h2 h1) q h h2; (have h4 := lt33 q h2; omega)
      obtain ⟨hF111, hm110⟩ := Vot.recN ho97 hgc25 (by rw [show ((s.setR who t { (s.rc who t) with till := 0 }).setR who t { r46 with n := 0 }).rc who t = r53 from ((updR_self _ _ _ _).trans hr53.symm)]; first | done | exact (show r53.d = _ from by rw [hr53]; exact (show r46.d = _ from by rw [hr46]; exact hd14)))
      rw [show ((s.setR who t { (s.rc who t) with till := 0 }).setR who t { r46 with n := 0 }).rc who t = r53 from ((updR_self _ _ _ _).trans hr53.symm)] at hm110
      have hq20lt := hm110.lt
      have hloq20 := lt33 _ hF111
      have hoq20 := own34 _ hF111
      refine OI_end rfl ?_
      refine X_then ?_
      refine V_seq ?_
      refine V_region ?_
      refine OI_static 1 [(10, nt 0)] (by kernel_rfl) ?_
      refine OI_end rfl ?_
      refine X_then ?_
      refine V_ret ?_
      have hE112 : unlE who t = 0 := by unfold unlE; rw [if_neg (by rintro (h9 | h9); exact h9 hg6; exact h9 hc12)]
      have hR112 : unlR (s.rc who t) now = r53 := by unfold unlR; rw [if_pos hc39]; rw [hr53, hr46]
      exact leave1 (nt 0) (.inl rfl) hDD (fun w' hk => ⟨res_tmps rfl, ⟨by rw [hE112], ⟨F22, F102, ⟨_, by rw [show unlS s who t now = ((s.setR who t { (s.rc who t) with till := 0 }).setR who t { r46 with n := 0 }) from by unfold unlS; rw [if_pos ⟨hE112, hc39⟩, VS.setR_setR, hR112, hr53]]; exact Vot.quiet ho97 hk⟩, by rw [show unlC cs s who t now = (lockC cs who t (mostL ((r53).n) (vrow ((s.setR who t { (s.rc who t) with till := 0 }).setR who t { r46 with n := 0 }) who t))) from by unfold unlC unlN unlM; rw [if_pos hE112, hd14]; dsimp only; rw [hR112]; first | done | rfl]; exact Led.quiet ho103 hk, rel35, rel108, (fun q h1 h2 => dis109 q h2 h1)⟩, Keep.quiet jhK0 hk (by omega)⟩⟩)
    ·
     refine V_skip ?_
     refine X_then ?_
     refine V_seq ?_
     refine V_region ?_
     refine OI_static 3 [(0, pt v), (1, pt l), (2, nt who), (3, nt t), (10, nt 0), (11, pt q20), (49, .pointer (some ⟨q20, 4, none⟩))] (by kernel_rfl) ?_
     refine OI_cell 3 (.tmp 49) 4 (nt (((s.rc who t)).n)) (some 50) (by kernel_rfl) (by kernel_rfl) hm37 (m := 1) (by kernel_rfl) rfl ?_
     refine OI_alloc 3 (nt 0) [nt 0] (some 12) (by kernel_rfl) (by kernel_rfl) (by kernel_rfl) ?_
     intro b113 w113 e113 hb113 k113 z113
     have hsz114 := Keep.size k113
     replace hm37 := hm37.keep k113 (fun f => f)
     replace hl := Led.keep hl k113 (fun _ _ f => f)
     replace hK0 := Keep.tr hK0 (Keep.ofNone k113)
     replace ho23 := Vot.keep ho23 k113 (fun _ _ f => f)
     have hb113lt := hb113.lt
     refine OI_set (m := 1) (kd := false) 3 (.tmp 12) (.tmp 50) 0 (nt (((s.rc who t)).n)) [nt (((s.rc who t)).n)] none (by kernel_rfl) (by kernel_rfl) (by kernel_rfl) hb113 (by kernel_rfl) (by kernel_rfl) (by kernel_rfl) (Nat.le_of_ble_eq_true (by kernel_rfl)) (by simp [Value.oneCell']) ?_
     intro w115 hb113_118 hk116 hz117
     replace hb113_118 : Blk w115 b113 [nt (((s.rc who t)).n)] 3 := hb113_118
     have hsz119 := Keep.size hk116
     replace hm37 := hm37.keep hk116 (by show ¬ (_ = _); omega)
     replace hl := Led.keep hl hk116 (fun q hq hs => by have hs : q = b113 := hs; have g0 := hGo q hq; have g1 := hGlt q hq; omega)
     replace hK0 := Keep.fresh hK0 hk116 (by intro i hi hs; first | exact hs | exact Or.inl hs | exact Or.inr hs | (exfalso; have hs2 : i = b113 := hs; omega))
     replace ho23 := Vot.keep ho23 hk116 (fun q hq hs => by have hs : q = b113 := hs; have g0 := own34 q hq; have g1 := lt33 q hq; omega)
     refine OI_end rfl ?_
     refine X_then ?_
     refine V_seq ?_
     refine V_seq ?_
     refine V_region ?_
     refine OI_static 3 [(1, pt l), (2, nt who), (3, nt t), (10, nt 0), (11, pt q20), (12, pt b113), (51, pt v), (52, nt who), (53, nt t)] (by kernel_rfl) ?_
     refine OI_call { callee := (Callee.value (Operand.func 60)), args := #[(Operand.tmp 51), (Operand.tmp 52), (Operand.tmp 53)], argTypes := #[31, 3, 3] } 60 #[pt v, nt who, nt t] (some 54) (by kernel_rfl) (by kernel_rfl) (by kernel_rfl) (votesfn_spec _ rfl who t _) ?_
     rintro _ w124 ⟨bv126, bw127, bt128, rfl, hbv126, hbw127, hbt128, hk125, hgebv126, hgebw127, hgebt128⟩
     refine ⟨_, rfl, ?_⟩
     have hsz129 := Keep.size hk125
     replace hm37 := hm37.keep hk125 (fun f => f)
     replace hb113_118 := hb113_118.keep hk125 (fun f => f)
     replace hl := Led.keep hl hk125 (fun _ _ f => f)
     replace hK0 := Keep.tr hK0 (Keep.ofNone hk125)
     replace ho23 := Vot.keep ho23 hk125 (fun _ _ f => f)
     have hbv126lt := hbv126.lt
     have hbw127lt := hbw127.lt
     have hbt128lt := hbt128.lt
     refine OI_end rfl ?_
     refine X_then ?_
     refine V_block ?_
     obtain ⟨A130, cap130, hva130⟩ := Vot.arr ho23
     have hal130 := VotA.lenA hva130
     have hvr9 : vrow s who t = vrow s who t := rfl
     have hvl9 := vrow_len s who t
     refine V_pick [(1, pt l), (2, nt who), (3, nt t), (11, pt q20), (12, pt b113), (54, .func (.func 94) #[] #[pt bv126, pt bw127, pt bt128])] rfl ?_
     have hN0 : w.heap.size ≤ w124.heap.size := Keep.size hK0
     refine V_range2 (gf := 94) (caps := #[pt bv126, pt bw127, pt bt128]) (m := (vrow s who t).length) (by kernel_rfl) (by kernel_rfl) (by kernel_rfl) (votes1_iter bv126 bw127 bt128 v P21.gv P21.gr cap130 P21.pp A130 s who t (by omega)) (⟨VotA.grat hva130, VotA.ok hva130 rfl (fun _ => rfl) hbv126 hbw127 hbt128⟩) (fun W W' h k => ⟨h.1.quiet k, h.2.quiet k⟩) (GV.enc2_size _) (fun M1 k W => (Blk W q20 [.pointer none, nt (((s.rc who t)).got.v), nt (((s.rc who t)).got.c), nt (((s.rc who t)).till), nt (((s.rc who t)).n)] 99) ∧ (Blk W bv126 [pt v] 31) ∧ (Blk W bw127 [nt who] 3) ∧ (Blk W bt128 [nt t] 3) ∧ (Led G W l xs cs) ∧ (Keep (fun q => F q ∨ G q) w W) ∧ (VotA A130 cap130 F22 W v P21 s) ∧ (Blk W b113 [nt (mostL (((s.rc who t)).n) ((vrow s who t).take k))] 3)) (fun M1 c k W => False) (fun M1 k W W' h hk => by obtain ⟨jq20, jbv126, jbw127, jbt128, jhl, jhK0, jhva130, jb113⟩ := h; exact ⟨jq20.quiet hk, jbv126.quiet hk, jbw127.quiet hk, jbt128.quiet hk, Led.quiet jhl hk, jhK0.quiet hk (by omega), VotA.quiet jhva130 hk, jb113.quiet hk⟩) (fun _ _ _ _ _ h _ => h.elim) (fun M1 hM1 => ⟨hm37, hbv126, hbw127, hbt128, hl, hK0, hva130, hb113_118⟩) (fun M1 k W h => by obtain ⟨jq20, jbv126, jbw127, jbt128, jhl, jhK0, jhva130, jb113⟩ := h; exact (VotA.ok jhva130 rfl (fun _ => rfl) jbv126 jbw127 jbt128)) ?_ ?_ (fun _ _ _ _ _ _ _ _ h _ => h.elim)
     ·
      intro lp D M1 k W hD hl hM hMW hkm ⟨jq20, jbv126, jbw127, jbt128, jhl, jhK0, jhva130, jb113⟩ ⟨rr, hrr⟩ hDD
      have hzjhK0 := Keep.size jhK0
      have hq20lt := jq20.lt
      have hb113lt := jb113.lt
      have hbv126lt := jbv126.lt
      have hbw127lt := jbw127.lt
      have hbt128lt := jbt128.lt
      obtain ⟨x, hx⟩ : ∃ x, (vrow s who t)[k]? = some x := ⟨_, List.getElem?_eq_getElem (by omega)⟩
      rw [GV.enc2_at hx]
      refine V_pick [(12, pt b113), (56, .agg (Vt.cells x.2).toArray)] rfl ?_
      have hfen : Keep (fen w124.heap.size M1) W W := Keep.refl _ _
      have hzhfen := Keep.size hfen
      refine V_region ?_
      refine OI_alloc 23 (.agg #[nt 0, .bool false, nt 0, nt 0, nt 0, nt 0]) [nt 0, .bool false, nt 0, nt 0, nt 0, nt 0] (some 14) (by kernel_rfl) (by kernel_rfl) (by kernel_rfl) ?_
      intro b131 w131 e131 hb131 k131 z131
      have hsz132 := Keep.size k131
      replace jq20 := jq20.keep k131 (fun f => f)
      replace jb113 := jb113.keep k131 (fun f => f)
      replace jbv126 := jbv126.keep k131 (fun f => f)
      replace jbw127 := jbw127.keep k131 (fun f => f)
      replace jbt128 := jbt128.keep k131 (fun f => f)
      replace jhl := Led.keep jhl k131 (fun _ _ f => f)
      replace jhK0 := Keep.tr jhK0 (Keep.ofNone k131)
      replace jhva130 := VotA.keep jhva130 k131 (fun _ _ f => f)
      replace hfen := Keep.tr hfen (Keep.ofNone k131)
      have hb131lt := hb131.lt
      refine OI_set (m := 6) (kd := true) 23 (.tmp 14) (.tmp 56) 0 (.agg (Vt.cells x.2).toArray) (Vt.cells x.2) none (by kernel_rfl) (by kernel_rfl) (by kernel_rfl) hb131 (by kernel_rfl) rfl (Vt.len _) (Nat.le_of_ble_eq_true (by kernel_rfl)) (Vt.one _) ?_
      intro w133 hb131_136 hk134 hz135
      replace hb131_136 : Blk w133 b131 (Vt.cells x.2) 23 := (by rwa [over_whole (by rw [Vt.len]; rfl)] at hb131_136)
      have hsz137 := Keep.size hk134
      replace jq20 := jq20.keep hk134 (by show ¬ (_ = _); omega)
      replace jb113 := jb113.keep hk134 (by show ¬ (_ = _); omega)
      replace jbv126 := jbv126.keep hk134 (by show ¬ (_ = _); omega)
      replace jbw127 := jbw127.keep hk134 (by show ¬ (_ = _); omega)
      replace jbt128 := jbt128.keep hk134 (by show ¬ (_ = _); omega)
      replace jhl := Led.keep jhl hk134 (fun q hq hs => by have hs : q = b131 := hs; have g0 := hGo q hq; have g1 := hGlt q hq; omega)
      replace jhK0 := Keep.fresh jhK0 hk134 (by intro i hi hs; first | exact hs | exact Or.inl hs | exact Or.inr hs | (exfalso; have hs2 : i = b131 := hs; omega))
      replace jhva130 := VotA.keep jhva130 hk134 (fun q hq hs => by have hs : q = b131 := hs; have g0 := own34 q hq; have g1 := lt33 q hq; omega)
      replace hfen := Keep.fresh hfen hk134 (by intro i hi hs; have hs2 : i = b131 := hs; show _ ∨ _; omega)
      refine OI_end rfl ?_
      refine X_begin2 hfen ?_
      intro W2 hk2 ⟨r2, hr2⟩ hD2
      have hsz138 := Keep.size hk2
      replace jq20 := Blk.quiet jq20 hk2
      replace jb113 := Blk.quiet jb113 hk2
      replace jbv126 := Blk.quiet jbv126 hk2
      replace jbw127 := Blk.quiet jbw127 hk2
      replace jbt128 := Blk.quiet jbt128 hk2
      replace hb131_136 := Blk.quiet hb131_136 hk2
      replace jhl := Led.quiet jhl hk2
      replace jhK0 := Keep.quiet jhK0 hk2 (by omega)
      replace jhva130 := VotA.quiet jhva130 hk2
      have hzhk2 := Keep.size hk2
      have hfenb : Keep (fen w124.heap.size M1) W2 W2 := Keep.refl _ _
      have hzhfenb := Keep.size hfenb
      refine V_block ?_
      refine V_draws (acts [2, 4]) none_ [[1, 2, 0, 3, 4]] (by kernel_rfl) (by repeat first | exact (by first | exact sure_postM | exact sure_rQ2 | exact sure_no) | refine sure_then ?_ | refine sure_block ?_ | refine sure_join ?_) (by kernel_rfl) ?_
      intro w140 hk139 he141 L hL142
      have hsz143 := Keep.size hk139
      replace jq20 := jq20.keep hk139 (fun f => f)
      replace jb113 := jb113.keep hk139 (fun f => f)
      replace jbv126 := jbv126.keep hk139 (fun f => f)
      replace jbw127 := jbw127.keep hk139 (fun f => f)
      replace jbt128 := jbt128.keep hk139 (fun f => f)
      replace hb131_136 := hb131_136.keep hk139 (fun f => f)
      replace jhl := Led.keep jhl hk139 (fun _ _ f => f)
      replace jhK0 := Keep.tr jhK0 (Keep.ofNone hk139)
      replace jhva130 := VotA.keep jhva130 hk139 (fun _ _ f => f)
      replace hfenb := Keep.tr hfenb (Keep.ofNone hk139)
      have qjq20 := jq20
      have qjb113 := jb113
      have qjbv126 := jbv126
      have qjbw127 := jbw127
      have qjbt128 := jbt128
      have qhb131_136 := hb131_136
      have K144 : Keep none_ w140 w140 := Keep.refl _ _
      obtain rfl := List.mem_singleton.1 hL142
      refine GI_agg 23 (.tmp 14) 0 (Vt.cells x.2) (some 58) (by kernel_rfl) (by kernel_rfl) (by kernel_rfl) qhb131_136 (fun f => f) (m := 6) (by kernel_rfl) (take_all (Vt.len _)) (Vt.len _) ?_
      refine GI_call { callee := (Callee.value (Operand.func 55)), args := #[(Operand.tmp 58)], argTypes := #[23] } 55 #[.agg (Vt.cells x.2).toArray] (some 59) (by kernel_rfl) (by kernel_rfl) (by kernel_rfl) (by kernel_rfl) (cvCapital_spec x.2 _) ?_
      rintro _ w147 ⟨rfl, hk148⟩
      have K149 := K144.tr (Keep.ofNone hk148)
      refine ⟨_, rfl, K149, ?_⟩
      have hzK149 := Keep.size K149
      have hsz150 := Keep.size hk148
      replace jq20 := jq20.keep hk148 (fun f => f)
      replace jb113 := jb113.keep hk148 (fun f => f)
      replace jbv126 := jbv126.keep hk148 (fun f => f)
      replace jbw127 := jbw127.keep hk148 (fun f => f)
      replace jbt128 := jbt128.keep hk148 (fun f => f)
      replace hb131_136 := hb131_136.keep hk148 (fun f => f)
      replace jhl := Led.keep jhl hk148 (fun _ _ f => f)
      replace jhK0 := Keep.tr jhK0 (Keep.ofNone hk148)
      replace jhva130 := VotA.keep jhva130 hk148 (fun _ _ f => f)
      replace hfenb := Keep.tr hfenb (Keep.ofNone hk148)
      refine GI_cell 3 (.tmp 12) 0 (nt (mostL (((s.rc who t)).n) ((vrow s who t).take k))) (some 57) (by kernel_rfl) (by kernel_rfl) (by kernel_rfl) qjb113 (fun f => f) (m := 1) (by kernel_rfl) rfl ?_
      refine GI_static [4] [(12, pt b113), (60, nt (if capI x.2 > mostL (((s.rc who t)).n) ((vrow s who t).take k) then capI x.2 else mostL (((s.rc who t)).n) ((vrow s who t).take k)))] (by kernel_rfl) ?_
      refine GI_final 4 (by kernel_rfl) (by kernel_rfl) ?_
      refine OI_set (m := 1) (kd := false) 3 (.tmp 12) (.tmp 60) 0 (nt (if capI x.2 > mostL (((s.rc who t)).n) ((vrow s who t).take k) then capI x.2 else mostL (((s.rc who t)).n) ((vrow s who t).take k))) [nt (if capI x.2 > mostL (((s.rc who t)).n) ((vrow s who t).take k) then capI x.2 else mostL (((s.rc who t)).n) ((vrow s who t).take k))] none (by kernel_rfl) (by kernel_rfl) (by kernel_rfl) jb113 (by kernel_rfl) (by kernel_rfl) (by kernel_rfl) (Nat.le_of_ble_eq_true (by kernel_rfl)) (by simp [Value.oneCell']) ?_
      intro w151 hb113_154 hk152 hz153
      replace hb113_154 : Blk w151 b113 [nt (if capI x.2 > mostL (((s.rc who t)).n) ((vrow s who t).take k) then capI x.2 else mostL (((s.rc who t)).n) ((vrow s who t).take k))] 3 := hb113_154
      have hsz155 := Keep.size hk152
      replace jq20 := jq20.keep hk152 (by show ¬ (_ = _); omega)
      replace jbv126 := jbv126.keep hk152 (by show ¬ (_ = _); omega)
      replace jbw127 := jbw127.keep hk152 (by show ¬ (_ = _); omega)
      replace jbt128 := jbt128.keep hk152 (by show ¬ (_ = _); omega)
      replace hb131_136 := hb131_136.keep hk152 (by show ¬ (_ = _); omega)
      replace jhl := Led.keep jhl hk152 (fun q hq hs => by have hs : q = b113 := hs; have g0 := hGo q hq; have g1 := hGlt q hq; omega)
      replace jhK0 := Keep.fresh jhK0 hk152 (by intro i hi hs; first | exact hs | exact Or.inl hs | exact Or.inr hs | (exfalso; have hs2 : i = b113 := hs; omega))
      replace jhva130 := VotA.keep jhva130 hk152 (fun q hq hs => by have hs : q = b113 := hs; have g0 := own34 q hq; have g1 := lt33 q hq; omega)
      replace hfenb := Keep.fresh hfenb hk152 (by intro i hi hs; have hs2 : i = b113 := hs; show _ ∨ _; omega)
      refine OI_end rfl ?_
      refine X_block ?_
      exact fun a _ => ⟨hfenb, jq20, jbv126, jbw127, jbt128, jhl, jhK0, jhva130, by rw [mostL_step hx]; exact hb113_154⟩
     ·
      intro D M1 W hD hM ⟨jq20, jbv126, jbw127, jbt128, jhl, jhK0, jhva130, jb113⟩ hDD
      have hzjhK0 := Keep.size jhK0
      have hq20lt := jq20.lt
      have hb113lt := jb113.lt
      have hbv126lt := jbv126.lt
      have hbw127lt := jbw127.lt
      have hbt128lt := jbt128.lt
      have ho156 := VotA.vot jhva130
      rw [List.take_length] at jb113
      refine X_block ?_
      refine X_then ?_
      refine V_seq ?_
      refine V_seq ?_
      refine V_region ?_
      refine OI_static 3 [(1, pt l), (2, nt who), (3, nt t), (11, pt q20), (12, pt b113), (63, pt q20)] (by kernel_rfl) ?_
      refine OI_cell 97 (.tmp 63) 0 (.pointer none) (some 64) (by kernel_rfl) (by kernel_rfl) jq20 (m := 1) (by kernel_rfl) rfl ?_
      refine OI_static 5 [(1, pt l), (2, nt who), (3, nt t), (11, pt q20), (12, pt b113), (65, .bool false)] (by kernel_rfl) ?_
      refine OI_end rfl ?_
      refine X_then ?_
      refine V_false rfl ?_
      refine V_skip ?_
      refine X_then ?_
      refine V_seq ?_
      refine V_region ?_
      refine OI_static 3 [(12, pt b113), (75, pt l), (76, nt who), (77, nt t)] (by kernel_rfl) ?_
      refine OI_cell 3 (.tmp 12) 0 (nt (mostL (((s.rc who t)).n) (vrow s who t))) (some 78) (by kernel_rfl) (by kernel_rfl) jb113 (m := 1) (by kernel_rfl) rfl ?_
      refine OI_call { callee := (Callee.value (Operand.func 66)), args := #[(Operand.tmp 75), (Operand.tmp 76), (Operand.tmp 77), (Operand.tmp 78)], argTypes := #[30, 3, 3, 3] } 66 #[pt l, nt who, nt t, nt (mostL (((s.rc who t)).n) (vrow s who t))] (some 79) (by kernel_rfl) (by kernel_rfl) (by kernel_rfl) (lock_spec G l xs cs who t (mostL (((s.rc who t)).n) (vrow s who t)) _ jhl hmax) ?_
      rintro _ w159 ⟨rfl, ⟨F161, ho162, hfr163⟩, hk160⟩
      refine ⟨_, rfl, ?_⟩
      have hsz164 := Keep.size hk160
      replace jb113 := jb113.keep hk160 (fun hs => by have h1 := hGo _ hs; have h2 := hGlt _ hs; omega)
      replace jbv126 := jbv126.keep hk160 (fun hs => by have h1 := hGo _ hs; have h2 := hGlt _ hs; omega)
      replace jbw127 := jbw127.keep hk160 (fun hs => by have h1 := hGo _ hs; have h2 := hGlt _ hs; omega)
      replace jbt128 := jbt128.keep hk160 (fun hs => by have h1 := hGo _ hs; have h2 := hGlt _ hs; omega)
      replace jhK0 := Keep.fresh jhK0 hk160 (fun i hi hs => by rcases hGr i hs with h | h; exact .inr h; (exfalso; omega))
      replace ho156 := Vot.keep ho156 hk160 (fun q hq hs => (fun q h1 h2 => dis36 q h2 h1) q hs hq)
      replace hDD := (Keep.block hk160 _ (Array.getElem?_eq_some_iff.1 hDD).1 (fun hs => by have h1 := hGo _ hs; have h2 := hGlt _ hs; omega)).trans hDD
      have own166 : ∀ q, F161 q → 0 ≤ q ∧ q ≠ b113 ∧ q ≠ bv126 ∧ q ≠ bw127 ∧ q ≠ bt128 := fun q hq => by rcases hfr163 q hq with h | h; (have h1 := hGo q h; have h2 := hGlt q h; omega); omega
      have lt165 := Led.lt ho162
      have rel167 : ∀ q, F161 q → G q ∨ w.heap.size ≤ q := fun q hq => by rcases hfr163 q hq with h | h; exact hGr q h; exact .inr (by omega)
      have dis168 : ∀ q, F161 q → ¬ F22 q := fun q h1 h2 => by rcases hfr163 q h1 with h | h; exact (fun q h1 h2 => dis36 q h2 h1) q h h2; (have h4 := lt33 q h2; omega)
      obtain ⟨hF170, hm169⟩ := Vot.recN ho156 hgc25 hd14
      have hq20lt := hm169.lt
      have hloq20 := lt33 _ hF170
      have hoq20 := own34 _ hF170
      refine OI_end rfl ?_
      refine X_then ?_
      refine V_seq ?_
      refine V_region ?_
      refine OI_static 1 [(10, nt 0)] (by kernel_rfl) ?_
      refine OI_end rfl ?_
      refine X_then ?_
      refine V_ret ?_
      have hE171 : unlE who t = 0 := by unfold unlE; rw [if_neg (by rintro (h9 | h9); exact h9 hg6; exact h9 hc12)]
      have hR171 : unlR (s.rc who t) now = s.rc who t := by unfold unlR; rw [if_neg hc39]
      exact leave1 (nt 0) (.inl rfl) hDD (fun w' hk => ⟨res_tmps rfl, ⟨by rw [hE171], ⟨F22, F161, ⟨_, by rw [show unlS s who t now = s from by unfold unlS; rw [if_neg (fun h9 => hc39 h9.2)]]; exact Vot.quiet ho156 hk⟩, by rw [show unlC cs s who t now = (lockC cs who t (mostL (((s.rc who t)).n) (vrow s who t))) from by unfold unlC unlN unlM; rw [if_pos hE171, hd14]; dsimp only; rw [hR171]; first | done | rfl]; exact Led.quiet ho162 hk, rel35, rel167, (fun q h1 h2 => dis168 q h2 h1)⟩, Keep.quiet jhK0 hk (by omega)⟩⟩)
   ·
    refine OI_call { callee := (Callee.value (Operand.func 48)), args := #[(Operand.tmp 31), (Operand.tmp 32), (Operand.tmp 33)], argTypes := #[31, 3, 3] } 48 #[pt v, nt who, nt t] (some 34) (by kernel_rfl) (by kernel_rfl) (by kernel_rfl) (record_spec F v P s who t _ h (by omega) (by omega)) ?_
    rintro _ w186 ⟨q176, P177, rfl, hgc181, hpp182, hgv183, hmn184, hdl185, ⟨F178, ho179, hfr180⟩, hk187⟩
    refine ⟨_, rfl, ?_⟩
    have hsz188 := Keep.size hk187
    replace hl := Led.keep hl hk187 (fun q hq hs => hdis q hs hq)
    replace hK0 := Keep.fresh hK0 hk187 (fun i hi hs => by rcases hFr i hs with h | h; exact .inl h; (exfalso; omega))
    have own190 : ∀ q, F178 q → 0 ≤ q := fun q hq => by rcases hfr180 q hq with h | h; (have h1 := hFo q h; have h2 := hFlt q h; omega); omega
    have lt189 := Vot.lt ho179
    have rel191 : ∀ q, F178 q → F q ∨ w.heap.size ≤ q := fun q hq => by rcases hfr180 q hq with h | h; exact hFr q h; exact .inr (by omega)
    have dis192 : ∀ q, F178 q → ¬ G q := fun q h1 h2 => by rcases hfr180 q h1 with h | h; exact hdis q h h2; (have h4 := hGlt q h2; omega)
    have hgq176lt := lt189 _ (Vot.at_ ho179)
    obtain ⟨bd195, hF194, hF196, hm193, hm197⟩ := Vot.recD ho179 hgc181 hd14
    have hbd195lt := hm197.lt
    have hlobd195 := lt189 _ hF196
    have hobd195 := own190 _ hF196
    have hq176lt := hm193.lt
    have hloq176 := lt189 _ hF194
    have hoq176 := own190 _ hF194
    have hnebd195q176 : bd195 ≠ q176 := Blk.ne hm197 hm193 (by decide)
    refine OI_static 5 [(0, pt v), (1, pt l), (2, nt who), (3, nt t), (4, nt now), (10, nt 0), (11, pt q176)] (by kernel_rfl) ?_
    refine OI_end rfl ?_
    refine X_then ?_
    refine V_seq ?_
    refine V_seq ?_
    refine V_region ?_
    refine OI_static 3 [(0, pt v), (1, pt l), (2, nt who), (3, nt t), (4, nt now), (10, nt 0), (11, pt q176), (37, .pointer (some ⟨q176, 3, none⟩))] (by kernel_rfl) ?_
    refine OI_cell 3 (.tmp 37) 3 (nt (((s.rc who t)).till)) (some 38) (by kernel_rfl) (by kernel_rfl) hm193 (m := 1) (by kernel_rfl) rfl ?_
    refine OI_static 6 [(0, pt v), (1, pt l), (2, nt who), (3, nt t), (10, nt 0), (11, pt q176), (40, .bool (decide (((s.rc who t)).till ≤ now)))] (by kernel_rfl) ?_
    refine OI_end rfl ?_
    refine X_then ?_
    refine V_if (((s.rc who t)).till ≤ now) (by kernel_rfl) (fun hc198 => ?_) (fun hc198 => ?_)
    ·
     refine V_region ?_
     refine OI_static 4 [(0, pt v), (1, pt l), (2, nt who), (3, nt t), (10, nt 0), (11, pt q176), (42, pt q176), (44, .pointer (some ⟨q176, 3, none⟩))] (by kernel_rfl) ?_
     refine OI_set (m := 1) (kd := false) 3 (.tmp 44) (.const (Value.int IntKind.i64 0)) 3 (nt 0) [nt 0] none (by kernel_rfl) (by kernel_rfl) (by kernel_rfl) hm193 (by kernel_rfl) (by kernel_rfl) (by kernel_rfl) (Nat.le_of_ble_eq_true (by kernel_rfl)) (by simp [Value.oneCell']) ?_
     intro w199 hn202 hk200 hz201
     replace hn202 : Blk w199 q176 [pt bd195, nt (((s.rc who t)).got.v), nt (((s.rc who t)).got.c), nt 0, nt (((s.rc who t)).n)] 99 := hn202
     have hsz203 := Keep.size hk200
     replace hm197 := hm197.keep hk200 (by show ¬ (bd195 = q176); omega)
     replace hl := Led.keep hl hk200 (fun q hq hs => (fun q h1 h2 => dis192 q h2 h1) q hq (by rw [show q = q176 from hs]; exact hF194))
     replace hK0 := Keep.fresh hK0 hk200 (fun i hi hs => by have hs : F178 i := (by rw [show i = q176 from hs]; exact hF194); rcases rel191 i hs with h | h; exact .inl h; (exfalso; omega))
     have ho204 := Vot.setRec (a := who) (t := t) (r' := { (s.rc who t) with till := 0 }) (dp := (some ⟨bd195, 0, none⟩)) (dp' := (some ⟨bd195, 0, none⟩)) ho179 hgc181 hm193 hk200 (show Blk _ _ (RecS.cells (some ⟨bd195, 0, none⟩) { (s.rc who t) with till := 0 }) _ from hn202) (.inl ⟨rfl, by first | rfl | exact joinR_d _ _ _ _ | (rw [show s.rc who t = (s.rc who t) from rfl]) | (rw [show s.rc who t = (s.rc who t) from rfl]; exact joinR_d _ _ _ _)⟩)
     obtain ⟨r205, hr205⟩ : ∃ r9 : RecS, r9 = { (s.rc who t) with till := 0 } := ⟨_, rfl⟩
     replace hn202 : Blk w199 q176 (RecS.cells (some ⟨bd195, 0, none⟩) r205) 99 := by rw [hr205]; exact hn202
     have hq176lt := hn202.lt
     refine OI_static 7 [(0, pt v), (1, pt l), (2, nt who), (3, nt t), (10, nt 0), (11, pt q176), (46, .pointer (some ⟨q176, 4, none⟩))] (by kernel_rfl) ?_
     refine OI_set (m := 1) (kd := false) 3 (.tmp 46) (.const (Value.int IntKind.i64 0)) 4 (nt 0) [nt 0] none (by kernel_rfl) (by kernel_rfl) (by kernel_rfl) hn202 (by kernel_rfl) (by kernel_rfl) (by kernel_rfl) (Nat.le_of_ble_eq_true (by kernel_rfl)) (by simp [Value.oneCell']) ?_
     intro w206 hn209 hk207 hz208
     replace hn209 : Blk w206 q176 [pt bd195, nt ((r205).got.v), nt ((r205).got.c), nt ((r205).till), nt 0] 99 := hn209
     have hsz210 := Keep.size hk207
     replace hm197 := hm197.keep hk207 (by show ¬ (bd195 = q176); omega)
     replace hl := Led.keep hl hk207 (fun q hq hs => (fun q h1 h2 => dis192 q h2 h1) q hq (by rw [show q = q176 from hs]; exact hF194))
     replace hK0 := Keep.fresh hK0 hk207 (fun i hi hs => by have hs : F178 i := (by rw [show i = q176 from hs]; exact hF194); rcases rel191 i hs with h | h; exact .inl h; (exfalso; omega))
     have ho211 := Vot.setRec (a := who) (t := t) (r' := { r205 with n := 0 }) (dp := (some ⟨bd195, 0, none⟩)) (dp' := (some ⟨bd195, 0, none⟩)) ho204 hgc181 (by rw [show (s.setR who t { (s.rc who t) with till := 0 }).rc who t = r205 from ((updR_self _ _ _ _).trans hr205.symm)]; exact hn202) hk207 (show Blk _ _ (RecS.cells (some ⟨bd195, 0, none⟩) { r205 with n := 0 }) _ from hn209) (.inl ⟨rfl, by first | rfl | exact joinR_d _ _ _ _ | (rw [show (s.setR who t { (s.rc who t) with till := 0 }).rc who t = r205 from ((updR_self _ _ _ _).trans hr205.symm)]) | (rw [show (s.setR who t { (s.rc who t) with till := 0 }).rc who t = r205 from ((updR_self _ _ _ _).trans hr205.symm)]; exact joinR_d _ _ _ _)⟩)
     obtain ⟨r212, hr212⟩ : ∃ r9 : RecS, r9 = { r205 with n := 0 } := ⟨_, rfl⟩
     replace hn209 : Blk w206 q176 (RecS.cells (some ⟨bd195, 0, none⟩) r212) 99 := by rw [hr212]; exact hn209
     have hq176lt := hn209.lt
     refine OI_end rfl ?_
     refine X_then ?_
     refine V_seq ?_
     refine V_region ?_
     refine OI_static 3 [(0, pt v), (1, pt l), (2, nt who), (3, nt t), (10, nt 0), (11, pt q176), (49, .pointer (some ⟨q176, 4, none⟩))] (by kernel_rfl) ?_
     refine OI_cell 3 (.tmp 49) 4 (nt ((r212).n)) (some 50) (by kernel_rfl) (by kernel_rfl) hn209 (m := 1) (by kernel_rfl) rfl ?_
     refine OI_alloc 3 (nt 0) [nt 0] (some 12) (by kernel_rfl) (by kernel_rfl) (by kernel_rfl) ?_
     intro b213 w213 e213 hb213 k213 z213
     have hsz214 := Keep.size k213
     replace hm197 := hm197.keep k213 (fun f => f)
     replace hn209 := hn209.keep k213 (fun f => f)
     replace hl := Led.keep hl k213 (fun _ _ f => f)
     replace hK0 := Keep.tr hK0 (Keep.ofNone k213)
     replace ho211 := Vot.keep ho211 k213 (fun _ _ f => f)
     have hb213lt := hb213.lt
     refine OI_set (m := 1) (kd := false) 3 (.tmp 12) (.tmp 50) 0 (nt ((r212).n)) [nt ((r212).n)] none (by kernel_rfl) (by kernel_rfl) (by kernel_rfl) hb213 (by kernel_rfl) (by kernel_rfl) (by kernel_rfl) (Nat.le_of_ble_eq_true (by kernel_rfl)) (by simp [Value.oneCell']) ?_
     intro w215 hb213_218 hk216 hz217
     replace hb213_218 : Blk w215 b213 [nt ((r212).n)] 3 := hb213_218
     have hsz219 := Keep.size hk216
     replace hm197 := hm197.keep hk216 (by show ¬ (_ = _); omega)
     replace hn209 := hn209.keep hk216 (by show ¬ (_ = _); omega)
     replace hl := Led.keep hl hk216 (fun q hq hs => by have hs : q = b213 := hs; have g0 := hGo q hq; have g1 := hGlt q hq; omega)
     replace hK0 := Keep.fresh hK0 hk216 (by intro i hi hs; first | exact hs | exact Or.inl hs | exact Or.inr hs | (exfalso; have hs2 : i = b213 := hs; omega))
     replace ho211 := Vot.keep ho211 hk216 (fun q hq hs => by have hs : q = b213 := hs; have g0 := own190 q hq; have g1 := lt189 q hq; omega)
     refine OI_end rfl ?_
     refine X_then ?_
     refine V_seq ?_
     refine V_seq ?_
     refine V_region ?_
     refine OI_static 3 [(1, pt l), (2, nt who), (3, nt t), (10, nt 0), (11, pt q176), (12, pt b213), (51, pt v), (52, nt who), (53, nt t)] (by kernel_rfl) ?_
     refine OI_call { callee := (Callee.value (Operand.func 60)), args := #[(Operand.tmp 51), (Operand.tmp 52), (Operand.tmp 53)], argTypes := #[31, 3, 3] } 60 #[pt v, nt who, nt t] (some 54) (by kernel_rfl) (by kernel_rfl) (by kernel_rfl) (votesfn_spec _ rfl who t _) ?_
     rintro _ w224 ⟨bv226, bw227, bt228, rfl, hbv226, hbw227, hbt228, hk225, hgebv226, hgebw227, hgebt228⟩
     refine ⟨_, rfl, ?_⟩
     have hsz229 := Keep.size hk225
     replace hm197 := hm197.keep hk225 (fun f => f)
     replace hn209 := hn209.keep hk225 (fun f => f)
     replace hb213_218 := hb213_218.keep hk225 (fun f => f)
     replace hl := Led.keep hl hk225 (fun _ _ f => f)
     replace hK0 := Keep.tr hK0 (Keep.ofNone hk225)
     replace ho211 := Vot.keep ho211 hk225 (fun _ _ f => f)
     have hbv226lt := hbv226.lt
     have hbw227lt := hbw227.lt
     have hbt228lt := hbt228.lt
     refine OI_end rfl ?_
     refine X_then ?_
     refine V_block ?_
     obtain ⟨A230, cap230, hva230⟩ := Vot.arr ho211
     have hal230 := VotA.lenA hva230
     have hvr9 : vrow ((s.setR who t { (s.rc who t) with till := 0 }).setR who t { r205 with n := 0 }) who t = vrow s who t := rfl
     have hvl9 := vrow_len ((s.setR who t { (s.rc who t) with till := 0 }).setR who t { r205 with n := 0 }) who t
     refine V_pick [(1, pt l), (2, nt who), (3, nt t), (11, pt q176), (12, pt b213), (54, .func (.func 94) #[] #[pt bv226, pt bw227, pt bt228])] rfl ?_
     have hN0 : w.heap.size ≤ w224.heap.size := Keep.size hK0
     refine V_range2 (gf := 94) (caps := #[pt bv226, pt bw227, pt bt228]) (m := (vrow ((s.setR who t { (s.rc who t) with till := 0 }).setR who t { r205 with n := 0 }) who t).length) (by kernel_rfl) (by kernel_rfl) (by kernel_rfl) (votes1_iter bv226 bw227 bt228 v P177.gv P177.gr cap230 P177.pp A230 ((s.setR who t { (s.rc who t) with till := 0 }).setR who t { r205 with n := 0 }) who t (by omega)) (⟨VotA.grat hva230, VotA.ok hva230 rfl (fun _ => rfl) hbv226 hbw227 hbt228⟩) (fun W W' h k => ⟨h.1.quiet k, h.2.quiet k⟩) (GV.enc2_size _) (fun M1 k W => (Blk W bd195 [nt ((d15).to), nt ((d15).level), nt ((d15).n)] 101) ∧ (Blk W q176 [pt bd195, nt ((r212).got.v), nt ((r212).got.c), nt ((r212).till), nt ((r212).n)] 99) ∧ (Blk W bv226 [pt v] 31) ∧ (Blk W bw227 [nt who] 3) ∧ (Blk W bt228 [nt t] 3) ∧ (Led G W l xs cs) ∧ (Keep (fun q => F q ∨ G q) w W) ∧ (VotA A230 cap230 F178 W v P177 ((s.setR who t { (s.rc who t) with till := 0 }).setR who t { r205 with n := 0 })) ∧ (Blk W b213 [nt (mostL ((r212).n) ((vrow ((s.setR who t { (s.rc who t) with till := 0 }).setR who t { r205 with n := 0 }) who t).take k))] 3)) (fun M1 c k W => False) (fun M1 k W W' h hk => by obtain ⟨jbd195, jq176, jbv226, jbw227, jbt228, jhl, jhK0, jhva230, jb213⟩ := h; exact ⟨jbd195.quiet hk, jq176.quiet hk, jbv226.quiet hk, jbw227.quiet hk, jbt228.quiet hk, Led.quiet jhl hk, jhK0.quiet hk (by omega), VotA.quiet jhva230 hk, jb213.quiet hk⟩) (fun _ _ _ _ _ h _ => h.elim) (fun M1 hM1 => ⟨hm197, hn209, hbv226, hbw227, hbt228, hl, hK0, hva230, hb213_218⟩) (fun M1 k W h => by obtain ⟨jbd195, jq176, jbv226, jbw227, jbt228, jhl, jhK0, jhva230, jb213⟩ := h; exact (VotA.ok jhva230 rfl (fun _ => rfl) jbv226 jbw227 jbt228)) ?_ ?_ (fun _ _ _ _ _ _ _ _ h _ => h.elim)
     ·
      intro lp D M1 k W hD hl hM hMW hkm ⟨jbd195, jq176, jbv226, jbw227, jbt228, jhl, jhK0, jhva230, jb213⟩ ⟨rr, hrr⟩ hDD
      have hzjhK0 := Keep.size jhK0
      have hbd195lt := jbd195.lt
      have hq176lt := jq176.lt
      have hb213lt := jb213.lt
      have hbv226lt := jbv226.lt
      have hbw227lt := jbw227.lt
      have hbt228lt := jbt228.lt
      obtain ⟨x, hx⟩ : ∃ x, (vrow ((s.setR who t { (s.rc who t) with till := 0 }).setR who t { r205 with n := 0 }) who t)[k]? = some x := ⟨_, List.getElem?_eq_getElem (by omega)⟩
      rw [GV.enc2_at hx]
      refine V_pick [(12, pt b213), (56, .agg (Vt.cells x.2).toArray)] rfl ?_
      have hfen : Keep (fen w224.heap.size M1) W W := Keep.refl _ _
      have hzhfen := Keep.size hfen
      refine V_region ?_
      refine OI_alloc 23 (.agg #[nt 0, .bool false, nt 0, nt 0, nt 0, nt 0]) [nt 0, .bool false, nt 0, nt 0, nt 0, nt 0] (some 14) (by kernel_rfl) (by kernel_rfl) (by kernel_rfl) ?_
      intro b231 w231 e231 hb231 k231 z231
      have hsz232 := Keep.size k231
      replace jbd195 := jbd195.keep k231 (fun f => f)
      replace jq176 := jq176.keep k231 (fun f => f)
      replace jb213 := jb213.keep k231 (fun f => f)
      replace jbv226 := jbv226.keep k231 (fun f => f)
      replace jbw227 := jbw227.keep k231 (fun f => f)
      replace jbt228 := jbt228.keep k231 (fun f => f)
      replace jhl := Led.keep jhl k231 (fun _ _ f => f)
      replace jhK0 := Keep.tr jhK0 (Keep.ofNone k231)
      replace jhva230 := VotA.keep jhva230 k231 (fun _ _ f => f)
      replace hfen := Keep.tr hfen (Keep.ofNone k231)
      have hb231lt := hb231.lt
      refine OI_set (m := 6) (kd := true) 23 (.tmp 14) (.tmp 56) 0 (.agg (Vt.cells x.2).toArray) (Vt.cells x.2) none (by kernel_rfl) (by kernel_rfl) (by kernel_rfl) hb231 (by kernel_rfl) rfl (Vt.len _) (Nat.le_of_ble_eq_true (by kernel_rfl)) (Vt.one _) ?_
      intro w233 hb231_236 hk234 hz235
      replace hb231_236 : Blk w233 b231 (Vt.cells x.2) 23 := (by rwa [over_whole (by rw [Vt.len]; rfl)] at hb231_236)
      have hsz237 := Keep.size hk234
      replace jbd195 := jbd195.keep hk234 (by show ¬ (_ = _); omega)
      replace jq176 := jq176.keep hk234 (by show ¬ (_ = _); omega)
      replace jb213 := jb213.keep hk234 (by show ¬ (_ = _); omega)
      replace jbv226 := jbv226.keep hk234 (by show ¬ (_ = _); omega)
      replace jbw227 := jbw227.keep hk234 (by show ¬ (_ = _); omega)
      replace jbt228 := jbt228.keep hk234 (by show ¬ (_ = _); omega)
      replace jhl := Led.keep jhl hk234 (fun q hq hs => by have hs : q = b231 := hs; have g0 := hGo q hq; have g1 := hGlt q hq; omega)
      replace jhK0 := Keep.fresh jhK0 hk234 (by intro i hi hs; first | exact hs | exact Or.inl hs | exact Or.inr hs | (exfalso; have hs2 : i = b231 := hs; omega))
      replace jhva230 := VotA.keep jhva230 hk234 (fun q hq hs => by have hs : q = b231 := hs; have g0 := own190 q hq; have g1 := lt189 q hq; omega)
      replace hfen := Keep.fresh hfen hk234 (by intro i hi hs; have hs2 : i = b231 := hs; show _ ∨ _; omega)
      refine OI_end rfl ?_
      refine X_begin2 hfen ?_
      intro W2 hk2 ⟨r2, hr2⟩ hD2
      have hsz238 := Keep.size hk2
      replace jbd195 := Blk.quiet jbd195 hk2
      replace jq176 := Blk.quiet jq176 hk2
      replace jb213 := Blk.quiet jb213 hk2
      replace jbv226 := Blk.quiet jbv226 hk2
      replace jbw227 := Blk.quiet jbw227 hk2
      replace jbt228 := Blk.quiet jbt228 hk2
      replace hb231_236 := Blk.quiet hb231_236 hk2
      replace jhl := Led.quiet jhl hk2
      replace jhK0 := Keep.quiet jhK0 hk2 (by omega)
      replace jhva230 := VotA.quiet jhva230 hk2
      have hzhk2 := Keep.size hk2
      have hfenb : Keep (fen w224.heap.size M1) W2 W2 := Keep.refl _ _
      have hzhfenb := Keep.size hfenb
      refine V_block ?_
      refine V_draws (acts [2, 4]) none_ [[1, 2, 0, 3, 4]] (by kernel_rfl) (by repeat first | exact (by first | exact sure_postM | exact sure_rQ2 | exact sure_no) | refine sure_then ?_ | refine sure_block ?_ | refine sure_join ?_) (by kernel_rfl) ?_
      intro w240 hk239 he241 L hL242
      have hsz243 := Keep.size hk239
      replace jbd195 := jbd195.keep hk239 (fun f => f)
      replace jq176 := jq176.keep hk239 (fun f => f)
      replace jb213 := jb213.keep hk239 (fun f => f)
      replace jbv226 := jbv226.keep hk239 (fun f => f)
      replace jbw227 := jbw227.keep hk239 (fun f => f)
      replace jbt228 := jbt228.keep hk239 (fun f => f)
      replace hb231_236 := hb231_236.keep hk239 (fun f => f)
      replace jhl := Led.keep jhl hk239 (fun _ _ f => f)
      replace jhK0 := Keep.tr jhK0 (Keep.ofNone hk239)
      replace jhva230 := VotA.keep jhva230 hk239 (fun _ _ f => f)
      replace hfenb := Keep.tr hfenb (Keep.ofNone hk239)
      have qjbd195 := jbd195
      have qjq176 := jq176
      have qjb213 := jb213
      have qjbv226 := jbv226
      have qjbw227 := jbw227
      have qjbt228 := jbt228
      have qhb231_236 := hb231_236
      have K244 : Keep none_ w240 w240 := Keep.refl _ _
      obtain rfl := List.mem_singleton.1 hL242
      refine GI_agg 23 (.tmp 14) 0 (Vt.cells x.2) (some 58) (by kernel_rfl) (by kernel_rfl) (by kernel_rfl) qhb231_236 (fun f => f) (m := 6) (by kernel_rfl) (take_all (Vt.len _)) (Vt.len _) ?_
      refine GI_call { callee := (Callee.value (Operand.func 55)), args := #[(Operand.tmp 58)], argTypes := #[23] } 55 #[.agg (Vt.cells x.2).toArray] (some 59) (by kernel_rfl) (by kernel_rfl) (by kernel_rfl) (by kernel_rfl) (cvCapital_spec x.2 _) ?_
      rintro _ w247 ⟨rfl, hk248⟩
      have K249 := K244.tr (Keep.ofNone hk248)
      refine ⟨_, rfl, K249, ?_⟩
      have hzK249 := Keep.size K249
      have hsz250 := Keep.size hk248
      replace jbd195 := jbd195.keep hk248 (fun f => f)
      replace jq176 := jq176.keep hk248 (fun f => f)
      replace jb213 := jb213.keep hk248 (fun f => f)
      replace jbv226 := jbv226.keep hk248 (fun f => f)
      replace jbw227 := jbw227.keep hk248 (fun f => f)
      replace jbt228 := jbt228.keep hk248 (fun f => f)
      replace hb231_236 := hb231_236.keep hk248 (fun f => f)
      replace jhl := Led.keep jhl hk248 (fun _ _ f => f)
      replace jhK0 := Keep.tr jhK0 (Keep.ofNone hk248)
      replace jhva230 := VotA.keep jhva230 hk248 (fun _ _ f => f)
      replace hfenb := Keep.tr hfenb (Keep.ofNone hk248)
      refine GI_cell 3 (.tmp 12) 0 (nt (mostL ((r212).n) ((vrow ((s.setR who t { (s.rc who t) with till := 0 }).setR who t { r205 with n := 0 }) who t).take k))) (some 57) (by kernel_rfl) (by kernel_rfl) (by kernel_rfl) qjb213 (fun f => f) (m := 1) (by kernel_rfl) rfl ?_
      refine GI_static [4] [(12, pt b213), (60, nt (if capI x.2 > mostL ((r212).n) ((vrow ((s.setR who t { (s.rc who t) with till := 0 }).setR who t { r205 with n := 0 }) who t).take k) then capI x.2 else mostL ((r212).n) ((vrow ((s.setR who t { (s.rc who t) with till := 0 }).setR who t { r205 with n := 0 }) who t).take k)))] (by kernel_rfl) ?_
      refine GI_final 4 (by kernel_rfl) (by kernel_rfl) ?_
      refine OI_set (m := 1) (kd := false) 3 (.tmp 12) (.tmp 60) 0 (nt (if capI x.2 > mostL ((r212).n) ((vrow ((s.setR who t { (s.rc who t) with till := 0 }).setR who t { r205 with n := 0 }) who t).take k) then capI x.2 else mostL ((r212).n) ((vrow ((s.setR who t { (s.rc who t) with till := 0 }).setR who t { r205 with n := 0 }) who t).take k))) [nt (if capI x.2 > mostL ((r212).n) ((vrow ((s.setR who t { (s.rc who t) with till := 0 }).setR who t { r205 with n := 0 }) who t).take k) then capI x.2 else mostL ((r212).n) ((vrow ((s.setR who t { (s.rc who t) with till := 0 }).setR who t { r205 with n := 0 }) who t).take k))] none (by kernel_rfl) (by kernel_rfl) (by kernel_rfl) jb213 (by kernel_rfl) (by kernel_rfl) (by kernel_rfl) (Nat.le_of_ble_eq_true (by kernel_rfl)) (by simp [Value.oneCell']) ?_
      intro w251 hb213_254 hk252 hz253
      replace hb213_254 : Blk w251 b213 [nt (if capI x.2 > mostL ((r212).n) ((vrow ((s.setR who t { (s.rc who t) with till := 0 }).setR who t { r205 with n := 0 }) who t).take k) then capI x.2 else mostL ((r212).n) ((vrow ((s.setR who t { (s.rc who t) with till := 0 }).setR who t { r205 with n := 0 }) who t).take k))] 3 := hb213_254
      have hsz255 := Keep.size hk252
      replace jbd195 := jbd195.keep hk252 (by show ¬ (_ = _); omega)
      replace jq176 := jq176.keep hk252 (by show ¬ (_ = _); omega)
      replace jbv226 := jbv226.keep hk252 (by show ¬ (_ = _); omega)
      replace jbw227 := jbw227.keep hk252 (by show ¬ (_ = _); omega)
      replace jbt228 := jbt228.keep hk252 (by show ¬ (_ = _); omega)
      replace hb231_236 := hb231_236.keep hk252 (by show ¬ (_ = _); omega)
      replace jhl := Led.keep jhl hk252 (fun q hq hs => by have hs : q = b213 := hs; have g0 := hGo q hq; have g1 := hGlt q hq; omega)
      replace jhK0 := Keep.fresh jhK0 hk252 (by intro i hi hs; first | exact hs | exact Or.inl hs | exact Or.inr hs | (exfalso; have hs2 : i = b213 := hs; omega))
      replace jhva230 := VotA.keep jhva230 hk252 (fun q hq hs => by have hs : q = b213 := hs; have g0 := own190 q hq; have g1 := lt189 q hq; omega)
      replace hfenb := Keep.fresh hfenb hk252 (by intro i hi hs; have hs2 : i = b213 := hs; show _ ∨ _; omega)
      refine OI_end rfl ?_
      refine X_block ?_
      exact fun a _ => ⟨hfenb, jbd195, jq176, jbv226, jbw227, jbt228, jhl, jhK0, jhva230, by rw [mostL_step hx]; exact hb213_254⟩
     ·
      intro D M1 W hD hM ⟨jbd195, jq176, jbv226, jbw227, jbt228, jhl, jhK0, jhva230, jb213⟩ hDD
      have hzjhK0 := Keep.size jhK0
      have hbd195lt := jbd195.lt
      have hq176lt := jq176.lt
      have hb213lt := jb213.lt
      have hbv226lt := jbv226.lt
      have hbw227lt := jbw227.lt
      have hbt228lt := jbt228.lt
      have ho256 := VotA.vot jhva230
      rw [List.take_length] at jb213
      refine X_block ?_
      refine X_then ?_
      refine V_seq ?_
      refine V_seq ?_
      refine V_region ?_
      refine OI_static 3 [(1, pt l), (2, nt who), (3, nt t), (11, pt q176), (12, pt b213), (63, pt q176)] (by kernel_rfl) ?_
      refine OI_cell 97 (.tmp 63) 0 (pt bd195) (some 64) (by kernel_rfl) (by kernel_rfl) jq176 (m := 1) (by kernel_rfl) rfl ?_
      refine OI_static 5 [(1, pt l), (2, nt who), (3, nt t), (11, pt q176), (12, pt b213), (65, .bool true)] (by kernel_rfl) ?_
      refine OI_end rfl ?_
      refine X_then ?_
      refine V_true rfl ?_
      refine V_draws (acts [9]) none_ [[0, 1, 2, 3, 4, 5, 6, 7, 8, 9]] (by kernel_rfl) (by repeat first | exact (by first | exact sure_postM | exact sure_rQ2 | exact sure_no) | refine sure_then ?_ | refine sure_block ?_ | refine sure_join ?_) (by kernel_rfl) ?_
      intro w258 hk257 he259 L hL260
      have hsz261 := Keep.size hk257
      replace jbd195 := jbd195.keep hk257 (fun f => f)
      replace jq176 := jq176.keep hk257 (fun f => f)
      replace jb213 := jb213.keep hk257 (fun f => f)
      replace jbv226 := jbv226.keep hk257 (fun f => f)
      replace jbw227 := jbw227.keep hk257 (fun f => f)
      replace jbt228 := jbt228.keep hk257 (fun f => f)
      replace jhl := Led.keep jhl hk257 (fun _ _ f => f)
      replace jhK0 := Keep.tr jhK0 (Keep.ofNone hk257)
      replace ho256 := Vot.keep ho256 hk257 (fun _ _ f => f)
      replace hDD := (Keep.block hk257 _ (Array.getElem?_eq_some_iff.1 hDD).1 (fun f => f)).trans hDD
      have qjbd195 := jbd195
      have qjq176 := jq176
      have qjb213 := jb213
      have qjbv226 := jbv226
      have qjbw227 := jbw227
      have qjbt228 := jbt228
      have K262 : Keep none_ w258 w258 := Keep.refl _ _
      obtain rfl := List.mem_singleton.1 hL260
      refine GI_cell 3 (.tmp 12) 0 (nt (mostL ((r212).n) (vrow ((s.setR who t { (s.rc who t) with till := 0 }).setR who t { r205 with n := 0 }) who t))) (some 66) (by kernel_rfl) (by kernel_rfl) (by kernel_rfl) qjb213 (fun f => f) (m := 1) (by kernel_rfl) rfl ?_
      refine GI_static [4, 5, 6, 7, 8, 9] [(1, pt l), (2, nt who), (3, nt t), (12, pt b213), (66, nt (mostL ((r212).n) (vrow ((s.setR who t { (s.rc who t) with till := 0 }).setR who t { r205 with n := 0 }) who t))), (69, pt q176)] (by kernel_rfl) ?_
      refine GI_cell 97 (.tmp 69) 0 (pt bd195) (some 70) (by kernel_rfl) (by kernel_rfl) (by kernel_rfl) qjq176 (fun f => f) (m := 1) (by kernel_rfl) rfl ?_
      refine GI_static [7, 8, 9] [(1, pt l), (2, nt who), (3, nt t), (12, pt b213), (66, nt (mostL ((r212).n) (vrow ((s.setR who t { (s.rc who t) with till := 0 }).setR who t { r205 with n := 0 }) who t))), (72, .pointer (some ⟨bd195, 2, none⟩))] (by kernel_rfl) ?_
      refine GI_cell 3 (.tmp 72) 2 (nt ((d15).n)) (some 73) (by kernel_rfl) (by kernel_rfl) (by kernel_rfl) qjbd195 (fun f => f) (m := 1) (by kernel_rfl) rfl ?_
      refine GI_static [9] [(1, pt l), (2, nt who), (3, nt t), (12, pt b213), (74, nt (if (d15).n > mostL ((r212).n) (vrow ((s.setR who t { (s.rc who t) with till := 0 }).setR who t { r205 with n := 0 }) who t) then (d15).n else mostL ((r212).n) (vrow ((s.setR who t { (s.rc who t) with till := 0 }).setR who t { r205 with n := 0 }) who t)))] (by kernel_rfl) ?_
      refine GI_final 9 (by kernel_rfl) (by kernel_rfl) ?_
      refine OI_set (m := 1) (kd := false) 3 (.tmp 12) (.tmp 74) 0 (nt (if (d15).n > mostL ((r212).n) (vrow ((s.setR who t { (s.rc who t) with till := 0 }).setR who t { r205 with n := 0 }) who t) then (d15).n else mostL ((r212).n) (vrow ((s.setR who t { (s.rc who t) with till := 0 }).setR who t { r205 with n := 0 }) who t))) [nt (if (d15).n > mostL ((r212).n) (vrow ((s.setR who t { (s.rc who t) with till := 0 }).setR who t { r205 with n := 0 }) who t) then (d15).n else mostL ((r212).n) (vrow ((s.setR who t { (s.rc who t) with till := 0 }).setR who t { r205 with n := 0 }) who t))] none (by kernel_rfl) (by kernel_rfl) (by kernel_rfl) jb213 (by kernel_rfl) (by kernel_rfl) (by kernel_rfl) (Nat.le_of_ble_eq_true (by kernel_rfl)) (by simp [Value.oneCell']) ?_
      intro w263 hb213_266 hk264 hz265
      replace hb213_266 : Blk w263 b213 [nt (if (d15).n > mostL ((r212).n) (vrow ((s.setR who t { (s.rc who t) with till := 0 }).setR who t { r205 with n := 0 }) who t) then (d15).n else mostL ((r212).n) (vrow ((s.setR who t { (s.rc who t) with till := 0 }).setR who t { r205 with n := 0 }) who t))] 3 := hb213_266
      have hsz267 := Keep.size hk264
      replace jbd195 := jbd195.keep hk264 (by show ¬ (_ = _); omega)
      replace jq176 := jq176.keep hk264 (by show ¬ (_ = _); omega)
      replace jbv226 := jbv226.keep hk264 (by show ¬ (_ = _); omega)
      replace jbw227 := jbw227.keep hk264 (by show ¬ (_ = _); omega)
      replace jbt228 := jbt228.keep hk264 (by show ¬ (_ = _); omega)
      replace jhl := Led.keep jhl hk264 (fun q hq hs => by have hs : q = b213 := hs; have g0 := hGo q hq; have g1 := hGlt q hq; omega)
      replace jhK0 := Keep.fresh jhK0 hk264 (by intro i hi hs; first | exact hs | exact Or.inl hs | exact Or.inr hs | (exfalso; have hs2 : i = b213 := hs; omega))
      replace ho256 := Vot.keep ho256 hk264 (fun q hq hs => by have hs : q = b213 := hs; have g0 := own190 q hq; have g1 := lt189 q hq; omega)
      replace hDD := (Keep.block hk264 _ (Array.getElem?_eq_some_iff.1 hDD).1 (by show ¬ (_ = _); omega)).trans hDD
      refine OI_end rfl ?_
      refine X_then ?_
      refine V_seq ?_
      refine V_region ?_
      refine OI_static 3 [(12, pt b213), (75, pt l), (76, nt who), (77, nt t)] (by kernel_rfl) ?_
      refine OI_cell 3 (.tmp 12) 0 (nt (if (d15).n > mostL ((r212).n) (vrow ((s.setR who t { (s.rc who t) with till := 0 }).setR who t { r205 with n := 0 }) who t) then (d15).n else mostL ((r212).n) (vrow ((s.setR who t { (s.rc who t) with till := 0 }).setR who t { r205 with n := 0 }) who t))) (some 78) (by kernel_rfl) (by kernel_rfl) hb213_266 (m := 1) (by kernel_rfl) rfl ?_
      refine OI_call { callee := (Callee.value (Operand.func 66)), args := #[(Operand.tmp 75), (Operand.tmp 76), (Operand.tmp 77), (Operand.tmp 78)], argTypes := #[30, 3, 3, 3] } 66 #[pt l, nt who, nt t, nt (if (d15).n > mostL ((r212).n) (vrow ((s.setR who t { (s.rc who t) with till := 0 }).setR who t { r205 with n := 0 }) who t) then (d15).n else mostL ((r212).n) (vrow ((s.setR who t { (s.rc who t) with till := 0 }).setR who t { r205 with n := 0 }) who t))] (some 79) (by kernel_rfl) (by kernel_rfl) (by kernel_rfl) (lock_spec G l xs cs who t (if (d15).n > mostL ((r212).n) (vrow ((s.setR who t { (s.rc who t) with till := 0 }).setR who t { r205 with n := 0 }) who t) then (d15).n else mostL ((r212).n) (vrow ((s.setR who t { (s.rc who t) with till := 0 }).setR who t { r205 with n := 0 }) who t)) _ jhl hmax) ?_
      rintro _ w270 ⟨rfl, ⟨F272, ho273, hfr274⟩, hk271⟩
      refine ⟨_, rfl, ?_⟩
      have hsz275 := Keep.size hk271
      replace hb213_266 := hb213_266.keep hk271 (fun hs => by have h1 := hGo _ hs; have h2 := hGlt _ hs; omega)
      replace jbv226 := jbv226.keep hk271 (fun hs => by have h1 := hGo _ hs; have h2 := hGlt _ hs; omega)
      replace jbw227 := jbw227.keep hk271 (fun hs => by have h1 := hGo _ hs; have h2 := hGlt _ hs; omega)
      replace jbt228 := jbt228.keep hk271 (fun hs => by have h1 := hGo _ hs; have h2 := hGlt _ hs; omega)
      replace jhK0 := Keep.fresh jhK0 hk271 (fun i hi hs => by rcases hGr i hs with h | h; exact .inr h; (exfalso; omega))
      replace ho256 := Vot.keep ho256 hk271 (fun q hq hs => (fun q h1 h2 => dis192 q h2 h1) q hs hq)
      replace hDD := (Keep.block hk271 _ (Array.getElem?_eq_some_iff.1 hDD).1 (fun hs => by have h1 := hGo _ hs; have h2 := hGlt _ hs; omega)).trans hDD
      have own277 : ∀ q, F272 q → 0 ≤ q ∧ q ≠ b213 ∧ q ≠ bv226 ∧ q ≠ bw227 ∧ q ≠ bt228 := fun q hq => by rcases hfr274 q hq with h | h; (have h1 := hGo q h; have h2 := hGlt q h; omega); omega
      have lt276 := Led.lt ho273
      have rel278 : ∀ q, F272 q → G q ∨ w.heap.size ≤ q := fun q hq => by rcases hfr274 q hq with h | h; exact hGr q h; exact .inr (by omega)
      have dis279 : ∀ q, F272 q → ¬ F178 q := fun q h1 h2 => by rcases hfr274 q h1 with h | h; exact (fun q h1 h2 => dis192 q h2 h1) q h h2; (have h4 := lt189 q h2; omega)
      obtain ⟨bd282, hF281, hF283, hm280, hm284⟩ := Vot.recD ho256 hgc181 (by rw [show ((s.setR who t { (s.rc who t) with till := 0 }).setR who t { r205 with n := 0 }).rc who t = r212 from ((updR_self _ _ _ _).trans hr212.symm)]; first | done | exact (show r212.d = _ from by rw [hr212]; exact (show r205.d = _ from by rw [hr205]; exact hd14)))
      have hbd282lt := hm284.lt
      have hlobd282 := lt189 _ hF283
      have hobd282 := own190 _ hF283
      rw [show ((s.setR who t { (s.rc who t) with till := 0 }).setR who t { r205 with n := 0 }).rc who t = r212 from ((updR_self _ _ _ _).trans hr212.symm)] at hm280
      have hq176lt := hm280.lt
      have hloq176 := lt189 _ hF281
      have hoq176 := own190 _ hF281
      have hnebd282q176 : bd282 ≠ q176 := Blk.ne hm284 hm280 (by decide)
      refine OI_end rfl ?_
      refine X_then ?_
      refine V_seq ?_
      refine V_region ?_
      refine OI_static 1 [(10, nt 0)] (by kernel_rfl) ?_
      refine OI_end rfl ?_
      refine X_then ?_
      refine V_ret ?_
      have hE285 : unlE who t = 0 := by unfold unlE; rw [if_neg (by rintro (h9 | h9); exact h9 hg6; exact h9 hc12)]
      have hR285 : unlR (s.rc who t) now = r212 := by unfold unlR; rw [if_pos hc198]; rw [hr212, hr205]
      exact leave1 (nt 0) (.inl rfl) hDD (fun w' hk => ⟨res_tmps rfl, ⟨by rw [hE285], ⟨F178, F272, ⟨_, by rw [show unlS s who t now = ((s.setR who t { (s.rc who t) with till := 0 }).setR who t { r205 with n := 0 }) from by unfold unlS; rw [if_pos ⟨hE285, hc198⟩, VS.setR_setR, hR285, hr212]]; exact Vot.quiet ho256 hk⟩, by rw [show unlC cs s who t now = (lockC cs who t (if (d15).n > mostL ((r212).n) (vrow ((s.setR who t { (s.rc who t) with till := 0 }).setR who t { r205 with n := 0 }) who t) then (d15).n else mostL ((r212).n) (vrow ((s.setR who t { (s.rc who t) with till := 0 }).setR who t { r205 with n := 0 }) who t))) from by unfold unlC unlN unlM; rw [if_pos hE285, hd14]; dsimp only; rw [hR285]; first | done | rfl]; exact Led.quiet ho273 hk, rel191, rel278, (fun q h1 h2 => dis279 q h2 h1)⟩, Keep.quiet jhK0 hk (by omega)⟩⟩)
    ·
     refine V_skip ?_
     refine X_then ?_
     refine V_seq ?_
     refine V_region ?_
     refine OI_static 3 [(0, pt v), (1, pt l), (2, nt who), (3, nt t), (10, nt 0), (11, pt q176), (49, .pointer (some ⟨q176, 4, none⟩))] (by kernel_rfl) ?_
     refine OI_cell 3 (.tmp 49) 4 (nt (((s.rc who t)).n)) (some 50) (by kernel_rfl) (by kernel_rfl) hm193 (m := 1) (by kernel_rfl) rfl ?_
     refine OI_alloc 3 (nt 0) [nt 0] (some 12) (by kernel_rfl) (by kernel_rfl) (by kernel_rfl) ?_
     intro b286 w286 e286 hb286 k286 z286
     have hsz287 := Keep.size k286
     replace hm197 := hm197.keep k286 (fun f => f)
     replace hm193 := hm193.keep k286 (fun f => f)
     replace hl := Led.keep hl k286 (fun _ _ f => f)
     replace hK0 := Keep.tr hK0 (Keep.ofNone k286)
     replace ho179 := Vot.keep ho179 k286 (fun _ _ f => f)
     have hb286lt := hb286.lt
     refine OI_set (m := 1) (kd := false) 3 (.tmp 12) (.tmp 50) 0 (nt (((s.rc who t)).n)) [nt (((s.rc who t)).n)] none (by kernel_rfl) (by kernel_rfl) (by kernel_rfl) hb286 (by kernel_rfl) (by kernel_rfl) (by kernel_rfl) (Nat.le_of_ble_eq_true (by kernel_rfl)) (by simp [Value.oneCell']) ?_
     intro w288 hb286_291 hk289 hz290
     replace hb286_291 : Blk w288 b286 [nt (((s.rc who t)).n)] 3 := hb286_291
     have hsz292 := Keep.size hk289
     replace hm197 := hm197.keep hk289 (by show ¬ (_ = _); omega)
     replace hm193 := hm193.keep hk289 (by show ¬ (_ = _); omega)
     replace hl := Led.keep hl hk289 (fun q hq hs => by have hs : q = b286 := hs; have g0 := hGo q hq; have g1 := hGlt q hq; omega)
     replace hK0 := Keep.fresh hK0 hk289 (by intro i hi hs; first | exact hs | exact Or.inl hs | exact Or.inr hs | (exfalso; have hs2 : i = b286 := hs; omega))
     replace ho179 := Vot.keep ho179 hk289 (fun q hq hs => by have hs : q = b286 := hs; have g0 := own190 q hq; have g1 := lt189 q hq; omega)
     refine OI_end rfl ?_
     refine X_then ?_
     refine V_seq ?_
     refine V_seq ?_
     refine V_region ?_
     refine OI_static 3 [(1, pt l), (2, nt who), (3, nt t), (10, nt 0), (11, pt q176), (12, pt b286), (51, pt v), (52, nt who), (53, nt t)] (by kernel_rfl) ?_
     refine OI_call { callee := (Callee.value (Operand.func 60)), args := #[(Operand.tmp 51), (Operand.tmp 52), (Operand.tmp 53)], argTypes := #[31, 3, 3] } 60 #[pt v, nt who, nt t] (some 54) (by kernel_rfl) (by kernel_rfl) (by kernel_rfl) (votesfn_spec _ rfl who t _) ?_
     rintro _ w297 ⟨bv299, bw300, bt301, rfl, hbv299, hbw300, hbt301, hk298, hgebv299, hgebw300, hgebt301⟩
     refine ⟨_, rfl, ?_⟩
     have hsz302 := Keep.size hk298
     replace hm197 := hm197.keep hk298 (fun f => f)
     replace hm193 := hm193.keep hk298 (fun f => f)
     replace hb286_291 := hb286_291.keep hk298 (fun f => f)
     replace hl := Led.keep hl hk298 (fun _ _ f => f)
     replace hK0 := Keep.tr hK0 (Keep.ofNone hk298)
     replace ho179 := Vot.keep ho179 hk298 (fun _ _ f => f)
     have hbv299lt := hbv299.lt
     have hbw300lt := hbw300.lt
     have hbt301lt := hbt301.lt
     refine OI_end rfl ?_
     refine X_then ?_
     refine V_block ?_
     obtain ⟨A303, cap303, hva303⟩ := Vot.arr ho179
     have hal303 := VotA.lenA hva303
     have hvr9 : vrow s who t = vrow s who t := rfl
     have hvl9 := vrow_len s who t
     refine V_pick [(1, pt l), (2, nt who), (3, nt t), (11, pt q176), (12, pt b286), (54, .func (.func 94) #[] #[pt bv299, pt bw300, pt bt301])] rfl ?_
     have hN0 : w.heap.size ≤ w297.heap.size := Keep.size hK0
     refine V_range2 (gf := 94) (caps := #[pt bv299, pt bw300, pt bt301]) (m := (vrow s who t).length) (by kernel_rfl) (by kernel_rfl) (by kernel_rfl) (votes1_iter bv299 bw300 bt301 v P177.gv P177.gr cap303 P177.pp A303 s who t (by omega)) (⟨VotA.grat hva303, VotA.ok hva303 rfl (fun _ => rfl) hbv299 hbw300 hbt301⟩) (fun W W' h k => ⟨h.1.quiet k, h.2.quiet k⟩) (GV.enc2_size _) (fun M1 k W => (Blk W bd195 [nt ((d15).to), nt ((d15).level), nt ((d15).n)] 101) ∧ (Blk W q176 [pt bd195, nt (((s.rc who t)).got.v), nt (((s.rc who t)).got.c), nt (((s.rc who t)).till), nt (((s.rc who t)).n)] 99) ∧ (Blk W bv299 [pt v] 31) ∧ (Blk W bw300 [nt who] 3) ∧ (Blk W bt301 [nt t] 3) ∧ (Led G W l xs cs) ∧ (Keep (fun q => F q ∨ G q) w W) ∧ (VotA A303 cap303 F178 W v P177 s) ∧ (Blk W b286 [nt (mostL (((s.rc who t)).n) ((vrow s who t).take k))] 3)) (fun M1 c k W => False) (fun M1 k W W' h hk => by obtain ⟨jbd195, jq176, jbv299, jbw300, jbt301, jhl, jhK0, jhva303, jb286⟩ := h; exact ⟨jbd195.quiet hk, jq176.quiet hk, jbv299.quiet hk, jbw300.quiet hk, jbt301.quiet hk, Led.quiet jhl hk, jhK0.quiet hk (by omega), VotA.quiet jhva303 hk, jb286.quiet hk⟩) (fun _ _ _ _ _ h _ => h.elim) (fun M1 hM1 => ⟨hm197, hm193, hbv299, hbw300, hbt301, hl, hK0, hva303, hb286_291⟩) (fun M1 k W h => by obtain ⟨jbd195, jq176, jbv299, jbw300, jbt301, jhl, jhK0, jhva303, jb286⟩ := h; exact (VotA.ok jhva303 rfl (fun _ => rfl) jbv299 jbw300 jbt301)) ?_ ?_ (fun _ _ _ _ _ _ _ _ h _ => h.elim)
     ·
      intro lp D M1 k W hD hl hM hMW hkm ⟨jbd195, jq176, jbv299, jbw300, jbt301, jhl, jhK0, jhva303, jb286⟩ ⟨rr, hrr⟩ hDD
      have hzjhK0 := Keep.size jhK0
      have hbd195lt := jbd195.lt
      have hq176lt := jq176.lt
      have hb286lt := jb286.lt
      have hbv299lt := jbv299.lt
      have hbw300lt := jbw300.lt
      have hbt301lt := jbt301.lt
      obtain ⟨x, hx⟩ : ∃ x, (vrow s who t)[k]? = some x := ⟨_, List.getElem?_eq_getElem (by omega)⟩
      rw [GV.enc2_at hx]
      refine V_pick [(12, pt b286), (56, .agg (Vt.cells x.2).toArray)] rfl ?_
      have hfen : Keep (fen w297.heap.size M1) W W := Keep.refl _ _
      have hzhfen := Keep.size hfen
      refine V_region ?_
      refine OI_alloc 23 (.agg #[nt 0, .bool false, nt 0, nt 0, nt 0, nt 0]) [nt 0, .bool false, nt 0, nt 0, nt 0, nt 0] (some 14) (by kernel_rfl) (by kernel_rfl) (by kernel_rfl) ?_
      intro b304 w304 e304 hb304 k304 z304
      have hsz305 := Keep.size k304
      replace jbd195 := jbd195.keep k304 (fun f => f)
      replace jq176 := jq176.keep k304 (fun f => f)
      replace jb286 := jb286.keep k304 (fun f => f)
      replace jbv299 := jbv299.keep k304 (fun f => f)
      replace jbw300 := jbw300.keep k304 (fun f => f)
      replace jbt301 := jbt301.keep k304 (fun f => f)
      replace jhl := Led.keep jhl k304 (fun _ _ f => f)
      replace jhK0 := Keep.tr jhK0 (Keep.ofNone k304)
      replace jhva303 := VotA.keep jhva303 k304 (fun _ _ f => f)
      replace hfen := Keep.tr hfen (Keep.ofNone k304)
      have hb304lt := hb304.lt
      refine OI_set (m := 6) (kd := true) 23 (.tmp 14) (.tmp 56) 0 (.agg (Vt.cells x.2).toArray) (Vt.cells x.2) none (by kernel_rfl) (by kernel_rfl) (by kernel_rfl) hb304 (by kernel_rfl) rfl (Vt.len _) (Nat.le_of_ble_eq_true (by kernel_rfl)) (Vt.one _) ?_
      intro w306 hb304_309 hk307 hz308
      replace hb304_309 : Blk w306 b304 (Vt.cells x.2) 23 := (by rwa [over_whole (by rw [Vt.len]; rfl)] at hb304_309)
      have hsz310 := Keep.size hk307
      replace jbd195 := jbd195.keep hk307 (by show ¬ (_ = _); omega)
      replace jq176 := jq176.keep hk307 (by show ¬ (_ = _); omega)
      replace jb286 := jb286.keep hk307 (by show ¬ (_ = _); omega)
      replace jbv299 := jbv299.keep hk307 (by show ¬ (_ = _); omega)
      replace jbw300 := jbw300.keep hk307 (by show ¬ (_ = _); omega)
      replace jbt301 := jbt301.keep hk307 (by show ¬ (_ = _); omega)
      replace jhl := Led.keep jhl hk307 (fun q hq hs => by have hs : q = b304 := hs; have g0 := hGo q hq; have g1 := hGlt q hq; omega)
      replace jhK0 := Keep.fresh jhK0 hk307 (by intro i hi hs; first | exact hs | exact Or.inl hs | exact Or.inr hs | (exfalso; have hs2 : i = b304 := hs; omega))
      replace jhva303 := VotA.keep jhva303 hk307 (fun q hq hs => by have hs : q = b304 := hs; have g0 := own190 q hq; have g1 := lt189 q hq; omega)
      replace hfen := Keep.fresh hfen hk307 (by intro i hi hs; have hs2 : i = b304 := hs; show _ ∨ _; omega)
      refine OI_end rfl ?_
      refine X_begin2 hfen ?_
      intro W2 hk2 ⟨r2, hr2⟩ hD2
      have hsz311 := Keep.size hk2
      replace jbd195 := Blk.quiet jbd195 hk2
      replace jq176 := Blk.quiet jq176 hk2
      replace jb286 := Blk.quiet jb286 hk2
      replace jbv299 := Blk.quiet jbv299 hk2
      replace jbw300 := Blk.quiet jbw300 hk2
      replace jbt301 := Blk.quiet jbt301 hk2
      replace hb304_309 := Blk.quiet hb304_309 hk2
      replace jhl := Led.quiet jhl hk2
      replace jhK0 := Keep.quiet jhK0 hk2 (by omega)
      replace jhva303 := VotA.quiet jhva303 hk2
      have hzhk2 := Keep.size hk2
      have hfenb : Keep (fen w297.heap.size M1) W2 W2 := Keep.refl _ _
      have hzhfenb := Keep.size hfenb
      refine V_block ?_
      refine V_draws (acts [2, 4]) none_ [[1, 2, 0, 3, 4]] (by kernel_rfl) (by repeat first | exact (by first | exact sure_postM | exact sure_rQ2 | exact sure_no) | refine sure_then ?_ | refine sure_block ?_ | refine sure_join ?_) (by kernel_rfl) ?_
      intro w313 hk312 he314 L hL315
      have hsz316 := Keep.size hk312
      replace jbd195 := jbd195.keep hk312 (fun f => f)
      replace jq176 := jq176.keep hk312 (fun f => f)
      replace jb286 := jb286.keep hk312 (fun f => f)
      replace jbv299 := jbv299.keep hk312 (fun f => f)
      replace jbw300 := jbw300.keep hk312 (fun f => f)
      replace jbt301 := jbt301.keep hk312 (fun f => f)
      replace hb304_309 := hb304_309.keep hk312 (fun f => f)
      replace jhl := Led.keep jhl hk312 (fun _ _ f => f)
      replace jhK0 := Keep.tr jhK0 (Keep.ofNone hk312)
      replace jhva303 := VotA.keep jhva303 hk312 (fun _ _ f => f)
      replace hfenb := Keep.tr hfenb (Keep.ofNone hk312)
      have qjbd195 := jbd195
      have qjq176 := jq176
      have qjb286 := jb286
      have qjbv299 := jbv299
      have qjbw300 := jbw300
      have qjbt301 := jbt301
      have qhb304_309 := hb304_309
      have K317 : Keep none_ w313 w313 := Keep.refl _ _
      obtain rfl := List.mem_singleton.1 hL315
      refine GI_agg 23 (.tmp 14) 0 (Vt.cells x.2) (some 58) (by kernel_rfl) (by kernel_rfl) (by kernel_rfl) qhb304_309 (fun f => f) (m := 6) (by kernel_rfl) (take_all (Vt.len _)) (Vt.len _) ?_
      refine GI_call { callee := (Callee.value (Operand.func 55)), args := #[(Operand.tmp 58)], argTypes := #[23] } 55 #[.agg (Vt.cells x.2).toArray] (some 59) (by kernel_rfl) (by kernel_rfl) (by kernel_rfl) (by kernel_rfl) (cvCapital_spec x.2 _) ?_
      rintro _ w320 ⟨rfl, hk321⟩
      have K322 := K317.tr (Keep.ofNone hk321)
      refine ⟨_, rfl, K322, ?_⟩
      have hzK322 := Keep.size K322
      have hsz323 := Keep.size hk321
      replace jbd195 := jbd195.keep hk321 (fun f => f)
      replace jq176 := jq176.keep hk321 (fun f => f)
      replace jb286 := jb286.keep hk321 (fun f => f)
      replace jbv299 := jbv299.keep hk321 (fun f => f)
      replace jbw300 := jbw300.keep hk321 (fun f => f)
      replace jbt301 := jbt301.keep hk321 (fun f => f)
      replace hb304_309 := hb304_309.keep hk321 (fun f => f)
      replace jhl := Led.keep jhl hk321 (fun _ _ f => f)
      replace jhK0 := Keep.tr jhK0 (Keep.ofNone hk321)
      replace jhva303 := VotA.keep jhva303 hk321 (fun _ _ f => f)
      replace hfenb := Keep.tr hfenb (Keep.ofNone hk321)
      refine GI_cell 3 (.tmp 12) 0 (nt (mostL (((s.rc who t)).n) ((vrow s who t).take k))) (some 57) (by kernel_rfl) (by kernel_rfl) (by kernel_rfl) qjb286 (fun f => f) (m := 1) (by kernel_rfl) rfl ?_
      refine GI_static [4] [(12, pt b286), (60, nt (if capI x.2 > mostL (((s.rc who t)).n) ((vrow s who t).take k) then capI x.2 else mostL (((s.rc who t)).n) ((vrow s who t).take k)))] (by kernel_rfl) ?_
      refine GI_final 4 (by kernel_rfl) (by kernel_rfl) ?_
      refine OI_set (m := 1) (kd := false) 3 (.tmp 12) (.tmp 60) 0 (nt (if capI x.2 > mostL (((s.rc who t)).n) ((vrow s who t).take k) then capI x.2 else mostL (((s.rc who t)).n) ((vrow s who t).take k))) [nt (if capI x.2 > mostL (((s.rc who t)).n) ((vrow s who t).take k) then capI x.2 else mostL (((s.rc who t)).n) ((vrow s who t).take k))] none (by kernel_rfl) (by kernel_rfl) (by kernel_rfl) jb286 (by kernel_rfl) (by kernel_rfl) (by kernel_rfl) (Nat.le_of_ble_eq_true (by kernel_rfl)) (by simp [Value.oneCell']) ?_
      intro w324 hb286_327 hk325 hz326
      replace hb286_327 : Blk w324 b286 [nt (if capI x.2 > mostL (((s.rc who t)).n) ((vrow s who t).take k) then capI x.2 else mostL (((s.rc who t)).n) ((vrow s who t).take k))] 3 := hb286_327
      have hsz328 := Keep.size hk325
      replace jbd195 := jbd195.keep hk325 (by show ¬ (_ = _); omega)
      replace jq176 := jq176.keep hk325 (by show ¬ (_ = _); omega)
      replace jbv299 := jbv299.keep hk325 (by show ¬ (_ = _); omega)
      replace jbw300 := jbw300.keep hk325 (by show ¬ (_ = _); omega)
      replace jbt301 := jbt301.keep hk325 (by show ¬ (_ = _); omega)
      replace hb304_309 := hb304_309.keep hk325 (by show ¬ (_ = _); omega)
      replace jhl := Led.keep jhl hk325 (fun q hq hs => by have hs : q = b286 := hs; have g0 := hGo q hq; have g1 := hGlt q hq; omega)
      replace jhK0 := Keep.fresh jhK0 hk325 (by intro i hi hs; first | exact hs | exact Or.inl hs | exact Or.inr hs | (exfalso; have hs2 : i = b286 := hs; omega))
      replace jhva303 := VotA.keep jhva303 hk325 (fun q hq hs => by have hs : q = b286 := hs; have g0 := own190 q hq; have g1 := lt189 q hq; omega)
      replace hfenb := Keep.fresh hfenb hk325 (by intro i hi hs; have hs2 : i = b286 := hs; show _ ∨ _; omega)
      refine OI_end rfl ?_
      refine X_block ?_
      exact fun a _ => ⟨hfenb, jbd195, jq176, jbv299, jbw300, jbt301, jhl, jhK0, jhva303, by rw [mostL_step hx]; exact hb286_327⟩
     ·
      intro D M1 W hD hM ⟨jbd195, jq176, jbv299, jbw300, jbt301, jhl, jhK0, jhva303, jb286⟩ hDD
      have hzjhK0 := Keep.size jhK0
      have hbd195lt := jbd195.lt
      have hq176lt := jq176.lt
      have hb286lt := jb286.lt
      have hbv299lt := jbv299.lt
      have hbw300lt := jbw300.lt
      have hbt301lt := jbt301.lt
      have ho329 := VotA.vot jhva303
      rw [List.take_length] at jb286
      refine X_block ?_
      refine X_then ?_
      refine V_seq ?_
      refine V_seq ?_
      refine V_region ?_
      refine OI_static 3 [(1, pt l), (2, nt who), (3, nt t), (11, pt q176), (12, pt b286), (63, pt q176)] (by kernel_rfl) ?_
      refine OI_cell 97 (.tmp 63) 0 (pt bd195) (some 64) (by kernel_rfl) (by kernel_rfl) jq176 (m := 1) (by kernel_rfl) rfl ?_
      refine OI_static 5 [(1, pt l), (2, nt who), (3, nt t), (11, pt q176), (12, pt b286), (65, .bool true)] (by kernel_rfl) ?_
      refine OI_end rfl ?_
      refine X_then ?_
      refine V_true rfl ?_
      refine V_draws (acts [9]) none_ [[0, 1, 2, 3, 4, 5, 6, 7, 8, 9]] (by kernel_rfl) (by repeat first | exact (by first | exact sure_postM | exact sure_rQ2 | exact sure_no) | refine sure_then ?_ | refine sure_block ?_ | refine sure_join ?_) (by kernel_rfl) ?_
      intro w331 hk330 he332 L hL333
      have hsz334 := Keep.size hk330
      replace jbd195 := jbd195.keep hk330 (fun f => f)
      replace jq176 := jq176.keep hk330 (fun f => f)
      replace jb286 := jb286.keep hk330 (fun f => f)
      replace jbv299 := jbv299.keep hk330 (fun f => f)
      replace jbw300 := jbw300.keep hk330 (fun f => f)
      replace jbt301 := jbt301.keep hk330 (fun f => f)
      replace jhl := Led.keep jhl hk330 (fun _ _ f => f)
      replace jhK0 := Keep.tr jhK0 (Keep.ofNone hk330)
      replace ho329 := Vot.keep ho329 hk330 (fun _ _ f => f)
      replace hDD := (Keep.block hk330 _ (Array.getElem?_eq_some_iff.1 hDD).1 (fun f => f)).trans hDD
      have qjbd195 := jbd195
      have qjq176 := jq176
      have qjb286 := jb286
      have qjbv299 := jbv299
      have qjbw300 := jbw300
      have qjbt301 := jbt301
      have K335 : Keep none_ w331 w331 := Keep.refl _ _
      obtain rfl := List.mem_singleton.1 hL333
      refine GI_cell 3 (.tmp 12) 0 (nt (mostL (((s.rc who t)).n) (vrow s who t))) (some 66) (by kernel_rfl) (by kernel_rfl) (by kernel_rfl) qjb286 (fun f => f) (m := 1) (by kernel_rfl) rfl ?_
      refine GI_static [4, 5, 6, 7, 8, 9] [(1, pt l), (2, nt who), (3, nt t), (12, pt b286), (66, nt (mostL (((s.rc who t)).n) (vrow s who t))), (69, pt q176)] (by kernel_rfl) ?_
      refine GI_cell 97 (.tmp 69) 0 (pt bd195) (some 70) (by kernel_rfl) (by kernel_rfl) (by kernel_rfl) qjq176 (fun f => f) (m := 1) (by kernel_rfl) rfl ?_
      refine GI_static [7, 8, 9] [(1, pt l), (2, nt who), (3, nt t), (12, pt b286), (66, nt (mostL (((s.rc who t)).n) (vrow s who t))), (72, .pointer (some ⟨bd195, 2, none⟩))] (by kernel_rfl) ?_
      refine GI_cell 3 (.tmp 72) 2 (nt ((d15).n)) (some 73) (by kernel_rfl) (by kernel_rfl) (by kernel_rfl) qjbd195 (fun f => f) (m := 1) (by kernel_rfl) rfl ?_
      refine GI_static [9] [(1, pt l), (2, nt who), (3, nt t), (12, pt b286), (74, nt (if (d15).n > mostL (((s.rc who t)).n) (vrow s who t) then (d15).n else mostL (((s.rc who t)).n) (vrow s who t)))] (by kernel_rfl) ?_
      refine GI_final 9 (by kernel_rfl) (by kernel_rfl) ?_
      refine OI_set (m := 1) (kd := false) 3 (.tmp 12) (.tmp 74) 0 (nt (if (d15).n > mostL (((s.rc who t)).n) (vrow s who t) then (d15).n else mostL (((s.rc who t)).n) (vrow s who t))) [nt (if (d15).n > mostL (((s.rc who t)).n) (vrow s who t) then (d15).n else mostL (((s.rc who t)).n) (vrow s who t))] none (by kernel_rfl) (by kernel_rfl) (by kernel_rfl) jb286 (by kernel_rfl) (by kernel_rfl) (by kernel_rfl) (Nat.le_of_ble_eq_true (by kernel_rfl)) (by simp [Value.oneCell']) ?_
      intro w336 hb286_339 hk337 hz338
      replace hb286_339 : Blk w336 b286 [nt (if (d15).n > mostL (((s.rc who t)).n) (vrow s who t) then (d15).n else mostL (((s.rc who t)).n) (vrow s who t))] 3 := hb286_339
      have hsz340 := Keep.size hk337
      replace jbd195 := jbd195.keep hk337 (by show ¬ (_ = _); omega)
      replace jq176 := jq176.keep hk337 (by show ¬ (_ = _); omega)
      replace jbv299 := jbv299.keep hk337 (by show ¬ (_ = _); omega)
      replace jbw300 := jbw300.keep hk337 (by show ¬ (_ = _); omega)
      replace jbt301 := jbt301.keep hk337 (by show ¬ (_ = _); omega)
      replace jhl := Led.keep jhl hk337 (fun q hq hs => by have hs : q = b286 := hs; have g0 := hGo q hq; have g1 := hGlt q hq; omega)
      replace jhK0 := Keep.fresh jhK0 hk337 (by intro i hi hs; first | exact hs | exact Or.inl hs | exact Or.inr hs | (exfalso; have hs2 : i = b286 := hs; omega))
      replace ho329 := Vot.keep ho329 hk337 (fun q hq hs => by have hs : q = b286 := hs; have g0 := own190 q hq; have g1 := lt189 q hq; omega)
      replace hDD := (Keep.block hk337 _ (Array.getElem?_eq_some_iff.1 hDD).1 (by show ¬ (_ = _); omega)).trans hDD
      refine OI_end rfl ?_
      refine X_then ?_
      refine V_seq ?_
      refine V_region ?_
      refine OI_static 3 [(12, pt b286), (75, pt l), (76, nt who), (77, nt t)] (by kernel_rfl) ?_
      refine OI_cell 3 (.tmp 12) 0 (nt (if (d15).n > mostL (((s.rc who t)).n) (vrow s who t) then (d15).n else mostL (((s.rc who t)).n) (vrow s who t))) (some 78) (by kernel_rfl) (by kernel_rfl) hb286_339 (m := 1) (by kernel_rfl) rfl ?_
      refine OI_call { callee := (Callee.value (Operand.func 66)), args := #[(Operand.tmp 75), (Operand.tmp 76), (Operand.tmp 77), (Operand.tmp 78)], argTypes := #[30, 3, 3, 3] } 66 #[pt l, nt who, nt t, nt (if (d15).n > mostL (((s.rc who t)).n) (vrow s who t) then (d15).n else mostL (((s.rc who t)).n) (vrow s who t))] (some 79) (by kernel_rfl) (by kernel_rfl) (by kernel_rfl) (lock_spec G l xs cs who t (if (d15).n > mostL (((s.rc who t)).n) (vrow s who t) then (d15).n else mostL (((s.rc who t)).n) (vrow s who t)) _ jhl hmax) ?_
      rintro _ w343 ⟨rfl, ⟨F345, ho346, hfr347⟩, hk344⟩
      refine ⟨_, rfl, ?_⟩
      have hsz348 := Keep.size hk344
      replace hb286_339 := hb286_339.keep hk344 (fun hs => by have h1 := hGo _ hs; have h2 := hGlt _ hs; omega)
      replace jbv299 := jbv299.keep hk344 (fun hs => by have h1 := hGo _ hs; have h2 := hGlt _ hs; omega)
      replace jbw300 := jbw300.keep hk344 (fun hs => by have h1 := hGo _ hs; have h2 := hGlt _ hs; omega)
      replace jbt301 := jbt301.keep hk344 (fun hs => by have h1 := hGo _ hs; have h2 := hGlt _ hs; omega)
      replace jhK0 := Keep.fresh jhK0 hk344 (fun i hi hs => by rcases hGr i hs with h | h; exact .inr h; (exfalso; omega))
      replace ho329 := Vot.keep ho329 hk344 (fun q hq hs => (fun q h1 h2 => dis192 q h2 h1) q hs hq)
      replace hDD := (Keep.block hk344 _ (Array.getElem?_eq_some_iff.1 hDD).1 (fun hs => by have h1 := hGo _ hs; have h2 := hGlt _ hs; omega)).trans hDD
      have own350 : ∀ q, F345 q → 0 ≤ q ∧ q ≠ b286 ∧ q ≠ bv299 ∧ q ≠ bw300 ∧ q ≠ bt301 := fun q hq => by rcases hfr347 q hq with h | h; (have h1 := hGo q h; have h2 := hGlt q h; omega); omega
      have lt349 := Led.lt ho346
      have rel351 : ∀ q, F345 q → G q ∨ w.heap.size ≤ q := fun q hq => by rcases hfr347 q hq with h | h; exact hGr q h; exact .inr (by omega)
      have dis352 : ∀ q, F345 q → ¬ F178 q := fun q h1 h2 => by rcases hfr347 q h1 with h | h; exact (fun q h1 h2 => dis192 q h2 h1) q h h2; (have h4 := lt189 q h2; omega)
      obtain ⟨bd355, hF354, hF356, hm353, hm357⟩ := Vot.recD ho329 hgc181 hd14
      have hbd355lt := hm357.lt
      have hlobd355 := lt189 _ hF356
      have hobd355 := own190 _ hF356
      have hq176lt := hm353.lt
      have hloq176 := lt189 _ hF354
      have hoq176 := own190 _ hF354
      have hnebd355q176 : bd355 ≠ q176 := Blk.ne hm357 hm353 (by decide)
      refine OI_end rfl ?_
      refine X_then ?_
      refine V_seq ?_
      refine V_region ?_
      refine OI_static 1 [(10, nt 0)] (by kernel_rfl) ?_
      refine OI_end rfl ?_
      refine X_then ?_
      refine V_ret ?_
      have hE358 : unlE who t = 0 := by unfold unlE; rw [if_neg (by rintro (h9 | h9); exact h9 hg6; exact h9 hc12)]
      have hR358 : unlR (s.rc who t) now = s.rc who t := by unfold unlR; rw [if_neg hc198]
      exact leave1 (nt 0) (.inl rfl) hDD (fun w' hk => ⟨res_tmps rfl, ⟨by rw [hE358], ⟨F178, F345, ⟨_, by rw [show unlS s who t now = s from by unfold unlS; rw [if_neg (fun h9 => hc198 h9.2)]]; exact Vot.quiet ho329 hk⟩, by rw [show unlC cs s who t now = (lockC cs who t (if (d15).n > mostL (((s.rc who t)).n) (vrow s who t) then (d15).n else mostL (((s.rc who t)).n) (vrow s who t))) from by unfold unlC unlN unlM; rw [if_pos hE358, hd14]; dsimp only; rw [hR358]; first | done | rfl]; exact Led.quiet ho346 hk, rel191, rel351, (fun q h1 h2 => dis352 q h2 h1)⟩, Keep.quiet jhK0 hk (by omega)⟩⟩)
 ·
  refine OI_eq [(0, pt v), (1, pt l), (2, nt who), (3, nt t), (4, nt now), (10, nt 0), (26, .bool true)] (by first | simp [hg6] | rfl) ?_
  refine OI_static 16 [(0, pt v), (1, pt l), (2, nt who), (3, nt t), (4, nt now), (10, nt 0), (30, .bool true)] (by kernel_rfl) ?_
  refine OI_end rfl ?_
  refine X_then ?_
  refine V_true rfl ?_
  refine V_seq ?_
  refine V_region ?_
  refine OI_static 1 [(10, nt 1)] (by kernel_rfl) ?_
  refine OI_end rfl ?_
  refine X_then ?_
  refine V_ret ?_
  refine X_ret_then ?_
  have hE359 : unlE who t = 1 := by unfold unlE; rw [if_pos (.inl hg6)]
  exact leave0 (nt 1) (.inl rfl) (res_tmps rfl) (⟨by rw [hE359], ⟨F, G, ⟨_, by rw [show unlS s who t now = s from by unfold unlS; rw [if_neg (by rw [hE359]; rintro ⟨h9, _⟩; cases h9)]]; exact h⟩, by rw [show unlC cs s who t now = cs from by unfold unlC; rw [if_neg (by rw [hE359]; decide)]]; exact hl, hFr, hGr, hdis⟩, hK0⟩)
end Go.Al


namespace Go.Al
open Go Go.RowKit Go.Proofs
theorem unlock_spec (F G : Nat → Prop) (v l : Nat) (s : VS) (xs : List Acc) (cs : List Ci) (who t now : Int) (w : World) (h : VotT F w v s) (hl : Led G w l xs cs) (hdis : ∀ q, F q → ¬ G q) (hmax : cs.length < 100000) : Calls Tryz.prog 28 #[.pointer (some ⟨v, 0, none⟩), .pointer (some ⟨l, 0, none⟩), .int .i64 who, .int .i64 t, .int .i64 now] w fun e w' => e = .returned (.int .i64 (unlE who t)) ∧ (∃ F' G', VotT F' w' v (unlS s who t now) ∧ Led G' w' l xs (unlC cs s who t now) ∧ (∀ q, F' q → F q ∨ w.heap.size ≤ q) ∧ (∀ q, G' q → G q ∨ w.heap.size ≤ q) ∧ (∀ q, F' q → ¬ G' q)) ∧ Keep (fun q => F q ∨ G q) w w' := by
  obtain ⟨⟨P, h⟩, ht⟩ := h
  refine (unlock_at F G v l P s xs cs who t now w h hl hdis hmax).mono ?_
  rintro e w' ⟨rfl, ⟨F', G', h1, h2, h3⟩, hk⟩
  exact ⟨rfl, ⟨F', G', ⟨h1, ht.unlS _ _ _⟩, h2, h3⟩, hk⟩
end Go.Al


namespace Go.Al
open Go Go.RowKit Go.Proofs
set_option maxRecDepth 10000 in
set_option maxHeartbeats 1000000 in
theorem walk_VotingPriors (level : Int) (aye approved : Bool) (now n : Int) (w : World) : Calls Tryz.prog 8 #[.int .i64 level, .bool aye, .bool approved, .int .i64 now, .int .i64 n] w fun e w' => e = .returned (.bool true) ∧ Keep none_ w w' := by
 have hK0 : Keep none_ w w := Keep.refl _ _
 have hzhK0 := Keep.size hK0
 refine enterV Tryz.func8 rfl [nt level, .bool aye, .bool approved, nt now, nt n] 146 rfl rfl rfl ?_
 refine V_pick [(0, nt level), (1, .bool aye), (2, .bool approved), (3, nt now), (4, nt n)] rfl ?_
 refine V_seq ?_
 refine V_region ?_
 refine OI_static 1 [(0, nt level), (1, .bool aye), (2, .bool approved), (3, nt now), (4, nt n)] (by kernel_rfl) ?_
 refine OI_end rfl ?_
 refine X_then ?_
 refine V_seq ?_
 refine V_seq ?_
 refine V_region ?_
 refine OI_static 3 [(0, nt level), (1, .bool aye), (2, .bool approved), (3, nt now), (4, nt n), (21, .bool (decide (level < 0)))] (by kernel_rfl) ?_
 by_cases hg1 : level < 0
 ·
  refine OI_eq [(0, nt level), (1, .bool aye), (2, .bool approved), (3, nt now), (4, nt n), (21, .bool true)] (by first | simp [hg1] | rfl) ?_
  refine OI_static 22 [(0, nt level), (1, .bool aye), (2, .bool approved), (3, nt now), (4, nt n), (40, .bool true)] (by kernel_rfl) ?_
  refine OI_end rfl ?_
  refine X_then ?_
  refine V_true rfl ?_
  refine V_seq ?_
  refine V_region ?_
  refine OI_static 1 [(10, .bool true)] (by kernel_rfl) ?_
  refine OI_end rfl ?_
  refine X_then ?_
  refine V_ret ?_
  refine X_ret_then ?_
  exact X_return (.bool true) rfl ⟨rfl, hK0⟩
 ·
  refine OI_eq [(0, nt level), (1, .bool aye), (2, .bool approved), (3, nt now), (4, nt n), (21, .bool false)] (by first | simp [hg1] | rfl) ?_
  refine OI_static 7 [(0, nt level), (1, .bool aye), (2, .bool approved), (3, nt now), (4, nt n), (25, .bool (decide (level > 6)))] (by kernel_rfl) ?_
  by_cases hg2 : level > 6
  ·
   refine OI_eq [(0, nt level), (1, .bool aye), (2, .bool approved), (3, nt now), (4, nt n), (25, .bool true)] (by first | simp [hg2] | rfl) ?_
   refine OI_static 22 [(0, nt level), (1, .bool aye), (2, .bool approved), (3, nt now), (4, nt n), (40, .bool true)] (by kernel_rfl) ?_
   refine OI_end rfl ?_
   refine X_then ?_
   refine V_true rfl ?_
   refine V_seq ?_
   refine V_region ?_
   refine OI_static 1 [(10, .bool true)] (by kernel_rfl) ?_
   refine OI_end rfl ?_
   refine X_then ?_
   refine V_ret ?_
   refine X_ret_then ?_
   exact X_return (.bool true) rfl ⟨rfl, hK0⟩
  ·
   refine OI_eq [(0, nt level), (1, .bool aye), (2, .bool approved), (3, nt now), (4, nt n), (25, .bool false)] (by first | simp [hg2] | rfl) ?_
   refine OI_static 11 [(0, nt level), (1, .bool aye), (2, .bool approved), (3, nt now), (4, nt n), (29, .bool (decide (now < 0)))] (by kernel_rfl) ?_
   by_cases hg3 : now < 0
   ·
    refine OI_eq [(0, nt level), (1, .bool aye), (2, .bool approved), (3, nt now), (4, nt n), (29, .bool true)] (by first | simp [hg3] | rfl) ?_
    refine OI_static 22 [(0, nt level), (1, .bool aye), (2, .bool approved), (3, nt now), (4, nt n), (40, .bool true)] (by kernel_rfl) ?_
    refine OI_end rfl ?_
    refine X_then ?_
    refine V_true rfl ?_
    refine V_seq ?_
    refine V_region ?_
    refine OI_static 1 [(10, .bool true)] (by kernel_rfl) ?_
    refine OI_end rfl ?_
    refine X_then ?_
    refine V_ret ?_
    refine X_ret_then ?_
    exact X_return (.bool true) rfl ⟨rfl, hK0⟩
   ·
    refine OI_eq [(0, nt level), (1, .bool aye), (2, .bool approved), (3, nt now), (4, nt n), (29, .bool false)] (by first | simp [hg3] | rfl) ?_
    refine OI_static 15 [(0, nt level), (1, .bool aye), (2, .bool approved), (3, nt now), (4, nt n), (33, .bool (decide (now > 600)))] (by kernel_rfl) ?_
    by_cases hg4 : now > 600
    ·
     refine OI_eq [(0, nt level), (1, .bool aye), (2, .bool approved), (3, nt now), (4, nt n), (33, .bool true)] (by first | simp [hg4] | rfl) ?_
     refine OI_static 22 [(0, nt level), (1, .bool aye), (2, .bool approved), (3, nt now), (4, nt n), (40, .bool true)] (by kernel_rfl) ?_
     refine OI_end rfl ?_
     refine X_then ?_
     refine V_true rfl ?_
     refine V_seq ?_
     refine V_region ?_
     refine OI_static 1 [(10, .bool true)] (by kernel_rfl) ?_
     refine OI_end rfl ?_
     refine X_then ?_
     refine V_ret ?_
     refine X_ret_then ?_
     exact X_return (.bool true) rfl ⟨rfl, hK0⟩
    ·
     refine OI_eq [(0, nt level), (1, .bool aye), (2, .bool approved), (3, nt now), (4, nt n), (33, .bool false)] (by first | simp [hg4] | rfl) ?_
     refine OI_static 19 [(0, nt level), (1, .bool aye), (2, .bool approved), (3, nt now), (4, nt n), (37, .bool (decide (n < 1)))] (by kernel_rfl) ?_
     by_cases hg5 : n < 1
     ·
      refine OI_eq [(0, nt level), (1, .bool aye), (2, .bool approved), (3, nt now), (4, nt n), (37, .bool true)] (by first | simp [hg5] | rfl) ?_
      refine OI_static 22 [(0, nt level), (1, .bool aye), (2, .bool approved), (3, nt now), (4, nt n), (40, .bool true)] (by kernel_rfl) ?_
      refine OI_end rfl ?_
      refine X_then ?_
      refine V_true rfl ?_
      refine V_seq ?_
      refine V_region ?_
      refine OI_static 1 [(10, .bool true)] (by kernel_rfl) ?_
      refine OI_end rfl ?_
      refine X_then ?_
      refine V_ret ?_
      refine X_ret_then ?_
      exact X_return (.bool true) rfl ⟨rfl, hK0⟩
     ·
      refine OI_eq [(0, nt level), (1, .bool aye), (2, .bool approved), (3, nt now), (4, nt n), (37, .bool false)] (by first | simp [hg5] | rfl) ?_
      refine OI_static 22 [(0, nt level), (1, .bool aye), (2, .bool approved), (3, nt now), (4, nt n), (40, .bool (decide (n > 1000)))] (by kernel_rfl) ?_
      refine OI_end rfl ?_
      refine X_then ?_
      refine V_if (n > 1000) (by kernel_rfl) (fun hc6 => ?_) (fun hc6 => ?_)
      ·
       refine V_seq ?_
       refine V_region ?_
       refine OI_static 1 [(10, .bool true)] (by kernel_rfl) ?_
       refine OI_end rfl ?_
       refine X_then ?_
       refine V_ret ?_
       refine X_ret_then ?_
       exact X_return (.bool true) rfl ⟨rfl, hK0⟩
      ·
       refine V_skip ?_
       refine X_then ?_
       refine V_seq ?_
       refine V_region ?_
       refine OI_slit (E := 3) (zv := nt 0) (sz := 1) (by_ := 8) 28 2 #[(0, (Operand.const (Value.int IntKind.i64 0))), (1, (Operand.const (Value.int IntKind.i64 1000)))] [nt 0, nt 1000] [nt 0, nt 1000] (some 41) (by kernel_rfl) (by kernel_rfl) (by kernel_rfl) (by omega) rfl (by omega) (by intro v hv; simp only [List.mem_cons, List.not_mem_nil, or_false] at hv; rcases hv with rfl | rfl <;> rfl) (by kernel_rfl) rfl ?_
       intro b7 w7 e7 hb7 k7 z7
       have hsz8 := Keep.size k7
       replace hK0 := Keep.tr hK0 (Keep.ofNone k7)
       have hb7lt := hb7.lt
       refine OI_call { callee := (Callee.value (Operand.func 15)), args := #[(Operand.tmp 41)], argTypes := #[28] } 15 #[.slice (some ⟨b7, 0, none⟩) 2 2] (some 42) (by kernel_rfl) (by kernel_rfl) (by kernel_rfl) (begin_weak (some ⟨b7, 0, none⟩) 2 [0, 1000] _ (slt_blk (xs := [0, 1000]) (f := intc) hb7 (fun _ => rfl) rfl).arg (by simp)) ?_
       rintro _ w11 ⟨b13, v14, l15, F16, G17, xv18, yv19, rfl, hb20, ho21, hl22, hk12, hge23, hF24, hG25, hd26⟩
       refine ⟨_, rfl, ?_⟩
       have hsz27 := Keep.size hk12
       replace hb7 := hb7.keep hk12 (fun f => f)
       replace hK0 := Keep.tr hK0 (Keep.ofNone hk12)
       have hb13lt := hb20.lt
       have own28 : ∀ q, F16 q → w7.heap.size ≤ q ∧ q ≠ b7 ∧ q ≠ b13 := fun q hq => by have h1 := hF24 q hq; omega
       have lt29 := VotT.lt ho21
       have hb13lt := hb20.lt
       have own30 : ∀ q, G17 q → w7.heap.size ≤ q ∧ q ≠ b7 ∧ q ≠ b13 := fun q hq => by have h1 := hG25 q hq; omega
       have lt31 := Led.lt hl22
       replace hl22 : Led G17 w11 l15 prX ([] : List Ci) := by rw [pr0] at hl22; exact hl22
       refine OI_static 3 [(0, nt level), (1, .bool aye), (2, .bool approved), (3, nt now), (4, nt n), (11, pt b13)] (by kernel_rfl) ?_
       refine OI_end rfl ?_
       refine X_then ?_
       refine V_seq ?_
       refine V_seq ?_
       refine V_region ?_
       refine OI_static 2 [(0, nt level), (1, .bool aye), (2, .bool approved), (3, nt now), (4, nt n), (11, pt b13), (44, .bool false)] (by kernel_rfl) ?_
       refine OI_end rfl ?_
       refine X_then ?_
       refine V_false rfl ?_
       refine V_skip ?_
       refine X_then ?_
       refine V_seq ?_
       refine V_region ?_
       refine OI_static 3 [(0, nt level), (1, .bool aye), (2, .bool approved), (3, nt now), (4, nt n), (11, pt b13), (47, .pointer (some ⟨b13, 1, none⟩))] (by kernel_rfl) ?_
       refine OI_cell 31 (.tmp 47) 1 (pt v14) (some 48) (by kernel_rfl) (by kernel_rfl) hb20 (m := 1) (by kernel_rfl) rfl ?_
       refine OI_call { callee := (Callee.value (Operand.func 16)), args := #[(Operand.tmp 48), (Operand.const (Value.int IntKind.i64 0)), (Operand.const (Value.int IntKind.i64 2))], argTypes := #[31, 3, 3] } 16 #[pt v14, nt 0, nt 2] (some 49) (by kernel_rfl) (by kernel_rfl) (by kernel_rfl) (open_specT F16 v14 VS.zero 0 2 _ ho21) ?_
       rintro _ w34 ⟨rfl, ⟨F36, ho37, hfr38⟩, hk35⟩
       refine ⟨_, rfl, ?_⟩
       have hsz39 := Keep.size hk35
       replace hb20 := hb20.keep hk35 (fun hs => by have h1 := own28 _ hs; have h2 := lt29 _ hs; omega)
       replace hK0 := Keep.fresh hK0 hk35 (by intro i hi hs; first | exact hs | (exfalso; have h1 := own28 i hs; have h2 := lt29 i hs; omega) | (have h1 := own28 i hs; have h2 := lt29 i hs; show _ ∨ _; omega))
       replace hl22 := Led.keep hl22 hk35 (fun q hq hs => hd26 q hs hq)
       have own41 : ∀ q, F36 q → w7.heap.size ≤ q ∧ q ≠ b13 := fun q hq => by rcases hfr38 q hq with h | h; (have h1 := own28 q h; have h2 := lt29 q h; omega); omega
       have lt40 := VotT.lt ho37
       have dis42 : ∀ q, F36 q → ¬ G17 q := fun q h1 h2 => by rcases hfr38 q h1 with h | h; exact hd26 q h h2; (have h4 := lt31 q h2; omega)
       refine OI_end rfl ?_
       refine X_then ?_
       refine V_seq ?_
       refine V_draws (acts [12]) none_ [[0, 1, 2, 3, 4, 5, 6, 7, 8, 9, 10, 11, 12]] (by kernel_rfl) (by repeat first | exact sure_body (by rintro _ _ ⟨h, _⟩; exact ⟨_, h⟩) | refine sure_then ?_ | refine sure_block ?_ | refine sure_join ?_) (by kernel_rfl) ?_
       intro w44 hk43 he45 L hL46
       have hsz47 := Keep.size hk43
       replace hb20 := hb20.keep hk43 (fun f => f)
       replace hK0 := Keep.tr hK0 (Keep.ofNone hk43)
       replace hl22 := Led.keep hl22 hk43 (fun _ _ f => f)
       replace ho37 := VotT.keep ho37 hk43 (fun _ _ f => f)
       have qhb20 := hb20
       have K48 : Keep none_ w44 w44 := Keep.refl _ _
       obtain rfl := List.mem_singleton.1 hL46
       refine GI_static [3, 4, 5, 6, 7, 8, 9, 10, 11, 12] [(0, nt level), (1, .bool aye), (2, .bool approved), (3, nt now), (4, nt n), (11, pt b13), (52, .pointer (some ⟨b13, 1, none⟩))] (by kernel_rfl) ?_
       refine GI_cell 31 (.tmp 52) 1 (pt v14) (some 53) (by kernel_rfl) (by kernel_rfl) (by kernel_rfl) qhb20 (fun f => f) (m := 1) (by kernel_rfl) rfl ?_
       refine GI_static [7, 8, 9, 10, 11, 12] [(0, nt level), (1, .bool aye), (2, .bool approved), (3, nt now), (4, nt n), (11, pt b13), (53, pt v14), (56, pt b13)] (by kernel_rfl) ?_
       refine GI_cell 30 (.tmp 56) 0 (pt l15) (some 57) (by kernel_rfl) (by kernel_rfl) (by kernel_rfl) qhb20 (fun f => f) (m := 1) (by kernel_rfl) rfl ?_
       refine GI_static [12] [(0, nt level), (1, .bool aye), (2, .bool approved), (3, nt now), (4, nt n), (11, pt b13), (53, pt v14), (57, pt l15), (61, .agg #[nt 1, .bool aye, nt level, nt n, nt 0, nt 0])] (by kernel_rfl) ?_
       refine GI_final 12 (by kernel_rfl) (by kernel_rfl) ?_
       obtain ⟨s2a, s2b, s2c⟩ := pr2 (aye := aye) (level := level) (n := n) (by omega) (by omega)
       refine OI_call { callee := (Callee.value (Operand.func 18)), args := #[(Operand.tmp 53), (Operand.tmp 57), (Operand.const (Value.int IntKind.i64 1)), (Operand.const (Value.int IntKind.i64 0)), (Operand.tmp 61)], argTypes := #[31, 30, 3, 3, 23] } 18 #[pt v14, pt l15, nt 1, nt 0, .agg #[nt 1, .bool aye, nt level, nt n, nt 0, nt 0]] (some 62) (by kernel_rfl) (by kernel_rfl) (by kernel_rfl) (vote_spec F36 G17 v14 l15 (openS VS.zero 0 2) prX ([] : List Ci) 1 0 (Vt.mk 1 aye level n 0 0) _ ho37 hl22 dis42 (by first | exact prC_len _ _ _ _ _ | decide | exact Nat.lt_trans (raise_lt (m := 1) (by decide) _ _ _) (by decide) | exact Nat.lt_trans (raise_lt (raise_lt (m := 1) (by decide) _ _ _) _ _ _) (by decide) | exact Nat.lt_trans (raise_lt (raise_lt (raise_lt (m := 1) (by decide) _ _ _) _ _ _) _ _ _) (by decide) | exact Nat.lt_trans (raise_lt (raise_lt (raise_lt (raise_lt (m := 1) (by decide) _ _ _) _ _ _) _ _ _) _ _ _) (by decide))) ?_
       rintro _ w51 ⟨rfl, ⟨F53, F56, ho54, ho57, hfr55, hfr58, hdis59⟩, hk52⟩
       refine ⟨_, rfl, ?_⟩
       have hsz60 := Keep.size hk52
       replace hb20 := hb20.keep hk52 (fun hs => by rcases hs with hs | hs; (have u0 := own41 _ hs; have u1 := lt40 _ hs; omega); (have u0 := own30 _ hs; have u1 := lt31 _ hs; omega))
       replace hK0 := Keep.fresh hK0 hk52 (by intro i hi hs; first | exact hs | (rcases hs with hs | hs; (have u0 := own41 i hs; have u1 := lt40 i hs; omega); (have u0 := own30 i hs; have u1 := lt31 i hs; omega)))
       have own62 : ∀ q, F53 q → w7.heap.size ≤ q ∧ q ≠ b13 := fun q hq => by rcases hfr55 q hq with h | h; (have h1 := own41 q h; have h2 := lt40 q h; omega); omega
       have lt61 := VotT.lt ho54
       have own64 : ∀ q, F56 q → w7.heap.size ≤ q ∧ q ≠ b13 := fun q hq => by rcases hfr58 q hq with h | h; (have h1 := own30 q h; have h2 := lt31 q h; omega); omega
       have lt63 := Led.lt ho57
       replace ho54 : VotT F53 w51 v14 (prS2 aye level n) := by rw [show voteS prX (openS VS.zero 0 2) 1 0 (Vt.mk 1 aye level n 0 0) = prS2 aye level n from s2b] at ho54; exact ho54
       replace ho57 : Led F56 w51 l15 prX (raiseC ([] : List Ci) 1 2 (capI (prV aye level n))) := by rw [show voteC prX ([] : List Ci) (openS VS.zero 0 2) 1 0 (Vt.mk 1 aye level n 0 0) = (raiseC ([] : List Ci) 1 2 (capI (prV aye level n))) from s2c _] at ho57; exact ho57
       refine OI_pick [(0, nt level), (1, .bool aye), (2, .bool approved), (3, nt now), (4, nt n), (11, pt b13), (62, nt (voteE prX (openS VS.zero 0 2) 1 0 (Vt.mk 1 aye level n 0 0)))] (by kernel_rfl) ?_
       refine OI_eq [(0, nt level), (1, .bool aye), (2, .bool approved), (3, nt now), (4, nt n), (11, pt b13), (62, nt 0)] (by rw [show voteE prX (openS VS.zero 0 2) 1 0 (Vt.mk 1 aye level n 0 0) = 0 from s2a]) ?_
       refine OI_end rfl ?_
       refine X_then ?_
       refine V_seq ?_
       refine V_region ?_
       refine OI_static 1 [(0, nt level), (1, .bool aye), (2, .bool approved), (3, nt now), (4, nt n), (11, pt b13), (12, nt 3)] (by kernel_rfl) ?_
       refine OI_end rfl ?_
       refine X_then ?_
       refine V_seq ?_
       refine V_seq ?_
       refine V_region ?_
       refine OI_static 1 [(0, nt level), (1, .bool aye), (2, .bool approved), (3, nt now), (4, nt n), (11, pt b13), (12, nt 3), (63, .bool approved)] (by kernel_rfl) ?_
       refine OI_end rfl ?_
       refine X_then ?_
       refine V_ifb (approved) (by kernel_rfl) (fun hc65 => ?_) (fun hc65 => ?_)
       ·
        refine V_region ?_
        refine OI_static 1 [(0, nt level), (1, .bool aye), (2, .bool approved), (3, nt now), (4, nt n), (11, pt b13), (12, nt 2)] (by kernel_rfl) ?_
        refine OI_end rfl ?_
        refine X_then ?_
        refine V_seq ?_
        refine V_region ?_
        refine OI_static 3 [(0, nt level), (1, .bool aye), (2, .bool approved), (3, nt now), (4, nt n), (11, pt b13), (12, nt 2), (66, .pointer (some ⟨b13, 1, none⟩))] (by kernel_rfl) ?_
        refine OI_cell 31 (.tmp 66) 1 (pt v14) (some 67) (by kernel_rfl) (by kernel_rfl) hb20 (m := 1) (by kernel_rfl) rfl ?_
        refine OI_static 5 [(0, nt level), (1, .bool aye), (2, .bool approved), (3, nt now), (4, nt n), (11, pt b13), (67, pt v14), (68, nt 2)] (by kernel_rfl) ?_
        obtain ⟨s3a, s3b⟩ := pr3 (aye := aye) (level := level) (n := n) (st := 2) (by decide)
        refine OI_call { callee := (Callee.value (Operand.func 32)), args := #[(Operand.tmp 67), (Operand.const (Value.int IntKind.i64 0)), (Operand.tmp 68), (Operand.const (Value.int IntKind.i64 10))], argTypes := #[31, 3, 3, 3] } 32 #[pt v14, nt 0, nt 2, nt 10] (some 69) (by kernel_rfl) (by kernel_rfl) (by kernel_rfl) (close_specT F53 v14 (prS2 aye level n) 0 2 10 _ ho54) ?_
        rintro _ w68 ⟨rfl, ⟨F70, ho71, hfr72⟩, hk69⟩
        refine ⟨_, rfl, ?_⟩
        have hsz73 := Keep.size hk69
        replace hb20 := hb20.keep hk69 (fun hs => by have h1 := own62 _ hs; have h2 := lt61 _ hs; omega)
        replace hK0 := Keep.fresh hK0 hk69 (by intro i hi hs; first | exact hs | (exfalso; have h1 := own62 i hs; have h2 := lt61 i hs; omega) | (have h1 := own62 i hs; have h2 := lt61 i hs; show _ ∨ _; omega))
        replace ho57 := Led.keep ho57 hk69 (fun q hq hs => hdis59 q hs hq)
        have own75 : ∀ q, F70 q → w7.heap.size ≤ q ∧ q ≠ b13 := fun q hq => by rcases hfr72 q hq with h | h; (have h1 := own62 q h; have h2 := lt61 q h; omega); omega
        have lt74 := VotT.lt ho71
        have dis76 : ∀ q, F70 q → ¬ F56 q := fun q h1 h2 => by rcases hfr72 q h1 with h | h; exact hdis59 q h h2; (have h4 := lt63 q h2; omega)
        replace ho71 : VotT F70 w68 v14 (prS3 aye level n 2) := by rw [s3b] at ho71; exact ho71
        refine OI_pick [(0, nt level), (1, .bool aye), (2, .bool approved), (3, nt now), (4, nt n), (11, pt b13), (69, nt (closeE (prS2 aye level n) 0 2))] (by kernel_rfl) ?_
        refine OI_eq [(0, nt level), (1, .bool aye), (2, .bool approved), (3, nt now), (4, nt n), (11, pt b13), (69, nt 0)] (by rw [s3a]) ?_
        refine OI_static 7 [(0, nt level), (1, .bool aye), (2, .bool approved), (3, nt now), (4, nt n), (11, pt b13), (13, nt 0)] (by kernel_rfl) ?_
        refine OI_end rfl ?_
        refine X_then ?_
        refine V_seq ?_
        refine V_region ?_
        refine OI_static 3 [(0, nt level), (1, .bool aye), (2, .bool approved), (3, nt now), (4, nt n), (11, pt b13), (13, nt 0), (72, .pointer (some ⟨b13, 1, none⟩))] (by kernel_rfl) ?_
        refine OI_cell 31 (.tmp 72) 1 (pt v14) (some 73) (by kernel_rfl) (by kernel_rfl) hb20 (m := 1) (by kernel_rfl) rfl ?_
        refine OI_static 5 [(0, nt level), (1, .bool aye), (2, .bool approved), (3, nt now), (4, nt n), (11, pt b13), (13, nt 0), (73, pt v14), (74, nt now)] (by kernel_rfl) ?_
        obtain ⟨s4a, s4b⟩ := pr4 (aye := aye) (level := level) (n := n) (st := 2) (now := now) (by decide) (by omega) (by omega)
        rw [show wonV (prV aye level n) 2 = (aye == approved) from by rw [hc65]; cases aye <;> kernel_rfl] at s4b
        refine OI_call { callee := (Callee.value (Operand.func 25)), args := #[(Operand.tmp 73), (Operand.const (Value.int IntKind.i64 1)), (Operand.const (Value.int IntKind.i64 0)), (Operand.tmp 74)], argTypes := #[31, 3, 3, 3] } 25 #[pt v14, nt 1, nt 0, nt now] (some 75) (by kernel_rfl) (by kernel_rfl) (by kernel_rfl) (unvote_specT F70 v14 (prS3 aye level n 2) 1 0 now _ ho71) ?_
        rintro _ w79 ⟨rfl, ⟨F81, ho82, hfr83⟩, hk80⟩
        refine ⟨_, rfl, ?_⟩
        have hsz84 := Keep.size hk80
        replace hb20 := hb20.keep hk80 (fun hs => by have h1 := own75 _ hs; have h2 := lt74 _ hs; omega)
        replace hK0 := Keep.fresh hK0 hk80 (by intro i hi hs; first | exact hs | (exfalso; have h1 := own75 i hs; have h2 := lt74 i hs; omega) | (have h1 := own75 i hs; have h2 := lt74 i hs; show _ ∨ _; omega))
        replace ho57 := Led.keep ho57 hk80 (fun q hq hs => dis76 q hs hq)
        have own86 : ∀ q, F81 q → w7.heap.size ≤ q ∧ q ≠ b13 := fun q hq => by rcases hfr83 q hq with h | h; (have h1 := own75 q h; have h2 := lt74 q h; omega); omega
        have lt85 := VotT.lt ho82
        have dis87 : ∀ q, F81 q → ¬ F56 q := fun q h1 h2 => by rcases hfr83 q h1 with h | h; exact dis76 q h h2; (have h4 := lt63 q h2; omega)
        replace ho82 : VotT F81 w79 v14 (prS4 aye level n 2 (prR (aye == approved) level now n)) := by rw [s4b] at ho82; exact ho82
        refine OI_pick [(0, nt level), (1, .bool aye), (2, .bool approved), (3, nt now), (4, nt n), (11, pt b13), (13, nt 0), (75, nt (unvE (prS3 aye level n 2) 1 0))] (by kernel_rfl) ?_
        refine OI_eq [(0, nt level), (1, .bool aye), (2, .bool approved), (3, nt now), (4, nt n), (11, pt b13), (13, nt 0), (75, nt 0)] (by rw [s4a]) ?_
        refine OI_static 7 [(0, nt level), (1, .bool aye), (2, .bool approved), (3, nt now), (4, nt n), (11, pt b13), (13, nt 0), (14, nt 0)] (by kernel_rfl) ?_
        refine OI_end rfl ?_
        refine X_then ?_
        refine V_seq ?_
        refine V_region ?_
        refine OI_static 1 [(1, .bool aye), (2, .bool approved), (3, nt now), (4, nt n), (11, pt b13), (13, nt 0), (14, nt 0), (76, nt level)] (by kernel_rfl) ?_
        refine OI_call { callee := (Callee.value (Operand.func 33)), args := #[(Operand.tmp 76), (Operand.const (Value.int IntKind.i64 8))], argTypes := #[3, 3] } 33 #[nt level, nt 8] (some 77) (by kernel_rfl) (by kernel_rfl) (by kernel_rfl) (rPeriod_spec level 8 _ (by omega)) ?_
        rintro _ w79 ⟨rfl, rfl⟩
        refine ⟨_, rfl, ?_⟩
        have hcp9 := pr_per (level := level) (by omega)
        have hw91 : IntKind.i64.wrap (10 + (cvPeriod level 8)) = 10 + (cvPeriod level 8) := (wrap64_id (by omega) (by omega)).trans (by omega)
        refine OI_static 3 [(1, .bool aye), (2, .bool approved), (3, nt now), (4, nt n), (11, pt b13), (13, nt 0), (14, nt 0), (78, nt (IntKind.i64.wrap (10 + (cvPeriod level 8))))] (by kernel_rfl) ?_
        refine OI_eq [(1, .bool aye), (2, .bool approved), (3, nt now), (4, nt n), (11, pt b13), (13, nt 0), (14, nt 0), (78, nt (10 + (cvPeriod level 8)))] (by rw [hw91]) ?_
        refine OI_static 4 [(1, .bool aye), (2, .bool approved), (3, nt now), (4, nt n), (11, pt b13), (13, nt 0), (14, nt 0), (15, nt (10 + (cvPeriod level 8)))] (by kernel_rfl) ?_
        refine OI_end rfl ?_
        refine X_then ?_
        refine V_seq ?_
        refine V_draws (acts [9]) none_ [[0, 1, 2, 3, 4, 5, 6, 7, 8, 9, 10]] (by kernel_rfl) (by repeat first | exact sure_body (by rintro _ _ ⟨h, _⟩; exact ⟨_, h⟩) | refine sure_then ?_ | refine sure_block ?_ | refine sure_join ?_) (by kernel_rfl) ?_
        intro w93 hk92 he94 L hL95
        have hsz96 := Keep.size hk92
        replace hb20 := hb20.keep hk92 (fun f => f)
        replace hK0 := Keep.tr hK0 (Keep.ofNone hk92)
        replace ho57 := Led.keep ho57 hk92 (fun _ _ f => f)
        replace ho82 := VotT.keep ho82 hk92 (fun _ _ f => f)
        have qhb20 := hb20
        have K97 : Keep none_ w93 w93 := Keep.refl _ _
        obtain rfl := List.mem_singleton.1 hL95
        refine GI_static [3, 4, 5, 6, 7, 8, 9, 10] [(1, .bool aye), (2, .bool approved), (3, nt now), (4, nt n), (11, pt b13), (13, nt 0), (14, nt 0), (15, nt (10 + (cvPeriod level 8))), (81, .pointer (some ⟨b13, 1, none⟩))] (by kernel_rfl) ?_
        refine GI_cell 31 (.tmp 81) 1 (pt v14) (some 82) (by kernel_rfl) (by kernel_rfl) (by kernel_rfl) qhb20 (fun f => f) (m := 1) (by kernel_rfl) rfl ?_
        refine GI_static [7, 8, 9, 10] [(1, .bool aye), (2, .bool approved), (3, nt now), (4, nt n), (11, pt b13), (13, nt 0), (14, nt 0), (15, nt (10 + (cvPeriod level 8))), (82, pt v14), (85, pt b13)] (by kernel_rfl) ?_
        refine GI_cell 30 (.tmp 85) 0 (pt l15) (some 86) (by kernel_rfl) (by kernel_rfl) (by kernel_rfl) qhb20 (fun f => f) (m := 1) (by kernel_rfl) rfl ?_
        refine GI_static [9, 10] [(1, .bool aye), (2, .bool approved), (3, nt now), (4, nt n), (11, pt b13), (13, nt 0), (14, nt 0), (15, nt (10 + (cvPeriod level 8))), (82, pt v14), (86, pt l15), (87, nt now)] (by kernel_rfl) ?_
        obtain ⟨s5a, s5b, s5c⟩ := pr5 (aye := aye) (won := (aye == approved)) (level := level) (n := n) (st := 2) (now := now) (by omega)
        refine GI_call0 { callee := (Callee.value (Operand.func 28)), args := #[(Operand.tmp 82), (Operand.tmp 86), (Operand.const (Value.int IntKind.i64 1)), (Operand.const (Value.int IntKind.i64 2)), (Operand.tmp 87)], argTypes := #[31, 30, 3, 3, 3] } 28 #[pt v14, pt l15, nt 1, nt 2, nt now] (some 88) (by kernel_rfl) (by kernel_rfl) (by kernel_rfl) (by kernel_rfl) (by kernel_rfl) (unlock_spec F81 F56 v14 l15 (prS4 aye level n 2 (prR (aye == approved) level now n)) prX (raiseC ([] : List Ci) 1 2 (capI (prV aye level n))) 1 2 now _ ho82 ho57 dis87 (by first | exact prC_len _ _ _ _ _ | decide | exact Nat.lt_trans (raise_lt (m := 1) (by decide) _ _ _) (by decide) | exact Nat.lt_trans (raise_lt (raise_lt (m := 1) (by decide) _ _ _) _ _ _) (by decide) | exact Nat.lt_trans (raise_lt (raise_lt (raise_lt (m := 1) (by decide) _ _ _) _ _ _) _ _ _) (by decide) | exact Nat.lt_trans (raise_lt (raise_lt (raise_lt (raise_lt (m := 1) (by decide) _ _ _) _ _ _) _ _ _) _ _ _) (by decide))) ?_
        rintro _ w100 ⟨rfl, ⟨F102, F105, ho103, ho106, hfr104, hfr107, hdis108⟩, hk101⟩
        refine ⟨_, rfl, ?_⟩
        have hsz109 := Keep.size hk101
        replace hb20 := hb20.keep hk101 (fun hs => by rcases hs with hs | hs; (have u0 := own86 _ hs; have u1 := lt85 _ hs; omega); (have u0 := own64 _ hs; have u1 := lt63 _ hs; omega))
        replace hK0 := Keep.fresh hK0 hk101 (by intro i hi hs; first | exact hs | (rcases hs with hs | hs; (have u0 := own86 i hs; have u1 := lt85 i hs; omega); (have u0 := own64 i hs; have u1 := lt63 i hs; omega)))
        have own111 : ∀ q, F102 q → w7.heap.size ≤ q ∧ q ≠ b13 := fun q hq => by rcases hfr104 q hq with h | h; (have h1 := own86 q h; have h2 := lt85 q h; omega); omega
        have lt110 := VotT.lt ho103
        have own113 : ∀ q, F105 q → w7.heap.size ≤ q ∧ q ≠ b13 := fun q hq => by rcases hfr107 q hq with h | h; (have h1 := own64 q h; have h2 := lt63 q h; omega); omega
        have lt112 := Led.lt ho106
        replace ho103 : VotT F102 w100 v14 (prS4 aye level n 2 (prR (aye == approved) level now n)) := by rw [s5b] at ho103; exact ho103
        replace ho106 : Led F105 w100 l15 prX (prC (aye == approved) aye level now n) := by rw [show unlC (raiseC ([] : List Ci) 1 2 (capI (prV aye level n))) (prS4 aye level n 2 (prR (aye == approved) level now n)) 1 2 now = (prC (aye == approved) aye level now n) from s5c _] at ho106; exact ho106
        refine GI_pick [(1, .bool aye), (2, .bool approved), (3, nt now), (4, nt n), (11, pt b13), (13, nt 0), (14, nt 0), (15, nt (10 + (cvPeriod level 8))), (88, nt (unlE 1 2))] (by kernel_rfl) ?_
        refine GI_eq [(1, .bool aye), (2, .bool approved), (3, nt now), (4, nt n), (11, pt b13), (13, nt 0), (14, nt 0), (15, nt (10 + (cvPeriod level 8))), (88, nt 0)] (by rw [s5a]) ?_
        refine GI_static [] [(1, .bool aye), (2, .bool approved), (3, nt now), (4, nt n), (11, pt b13), (13, nt 0), (14, nt 0), (15, nt (10 + (cvPeriod level 8))), (16, nt 0)] (by kernel_rfl) ?_
        refine GI_end ?_
        refine X_then ?_
        refine V_seq ?_
        refine V_region ?_
        refine OI_static 1 [(1, .bool aye), (2, .bool approved), (3, nt now), (4, nt n), (11, pt b13), (13, nt 0), (14, nt 0), (15, nt (10 + (cvPeriod level 8))), (16, nt 0), (17, nt 0)] (by kernel_rfl) ?_
        refine OI_end rfl ?_
        refine X_then ?_
        refine V_seq ?_
        refine V_seq ?_
        refine V_region ?_
        refine OI_static 4 [(3, nt now), (4, nt n), (11, pt b13), (13, nt 0), (14, nt 0), (15, nt (10 + (cvPeriod level 8))), (16, nt 0), (17, nt 0), (92, .bool (aye == approved))] (by kernel_rfl) ?_
        cases hg114 : (aye == approved)
        ·
         refine OI_eq [(3, nt now), (4, nt n), (11, pt b13), (13, nt 0), (14, nt 0), (15, nt (10 + (cvPeriod level 8))), (16, nt 0), (17, nt 0), (92, .bool false)] (by first | rfl | rw [hg114]) ?_
         refine OI_static 8 [(3, nt now), (4, nt n), (11, pt b13), (13, nt 0), (14, nt 0), (15, nt (10 + (cvPeriod level 8))), (16, nt 0), (17, nt 0), (96, .bool false)] (by kernel_rfl) ?_
         refine OI_end rfl ?_
         refine X_then ?_
         refine V_false rfl ?_
         refine V_skip ?_
         refine X_then ?_
         refine V_seq ?_
         refine V_seq ?_
         refine V_region ?_
         refine OI_static 10 [(3, nt now), (11, pt b13), (15, nt (10 + (cvPeriod level 8))), (17, nt 0), (104, .bool false), (107, pt b13)] (by kernel_rfl) ?_
         refine OI_cell 30 (.tmp 107) 0 (pt l15) (some 108) (by kernel_rfl) (by kernel_rfl) hb20 (m := 1) (by kernel_rfl) rfl ?_
         have hpm117 : prM (aye == approved) level now n = 0 := if_neg (fun e => Bool.noConfusion (hg114.symm.trans e.1))
         refine OI_call { callee := (Callee.value (Operand.func 21)), args := #[(Operand.tmp 108), (Operand.const (Value.int IntKind.i64 1))], argTypes := #[30, 3] } 21 #[pt l15, nt 1] (some 109) (by kernel_rfl) (by kernel_rfl) (by kernel_rfl) (locked_spec F105 l15 prX (prC (aye == approved) aye level now n) 1 _ ho106) ?_
         rintro _ w115 ⟨rfl, hk116⟩
         refine ⟨_, rfl, ?_⟩
         have hsz118 := Keep.size hk116
         replace hb20 := hb20.keep hk116 (fun f => f)
         replace hK0 := Keep.tr hK0 (Keep.ofNone hk116)
         replace ho103 := VotT.keep ho103 hk116 (fun _ _ f => f)
         replace ho106 := Led.keep ho106 hk116 (fun _ _ f => f)
         refine OI_pick [(3, nt now), (11, pt b13), (15, nt (10 + (cvPeriod level 8))), (17, nt 0), (104, .bool false), (109, nt (lockedL (prC (aye == approved) aye level now n) 1))] (by kernel_rfl) ?_
         refine OI_eq [(3, nt now), (11, pt b13), (15, nt (10 + (cvPeriod level 8))), (17, nt 0), (104, .bool false), (109, nt 0)] (by rw [(pr_lk (by omega) (by omega)).1, hpm117]) ?_
         refine OI_static 15 [(3, nt now), (11, pt b13), (15, nt (10 + (cvPeriod level 8))), (112, .bool false)] (by kernel_rfl) ?_
         refine OI_end rfl ?_
         refine X_then ?_
         refine V_false rfl ?_
         refine V_skip ?_
         refine X_then ?_
         refine V_seq ?_
         refine V_draws (acts [11]) none_ [[0, 1, 2, 3, 4, 5, 6, 7, 8, 9, 10, 11, 12]] (by kernel_rfl) (by repeat first | exact sure_body (by rintro _ _ ⟨h, _⟩; exact ⟨_, h⟩) | refine sure_then ?_ | refine sure_block ?_ | refine sure_join ?_) (by kernel_rfl) ?_
         intro w120 hk119 he121 L hL122
         have hsz123 := Keep.size hk119
         replace hb20 := hb20.keep hk119 (fun f => f)
         replace hK0 := Keep.tr hK0 (Keep.ofNone hk119)
         replace ho103 := VotT.keep ho103 hk119 (fun _ _ f => f)
         replace ho106 := Led.keep ho106 hk119 (fun _ _ f => f)
         have qhb20 := hb20
         have K124 : Keep none_ w120 w120 := Keep.refl _ _
         obtain rfl := List.mem_singleton.1 hL122
         refine GI_static [3, 4, 5, 6, 7, 8, 9, 10, 11, 12] [(3, nt now), (11, pt b13), (15, nt (10 + (cvPeriod level 8))), (115, .pointer (some ⟨b13, 1, none⟩))] (by kernel_rfl) ?_
         refine GI_cell 31 (.tmp 115) 1 (pt v14) (some 116) (by kernel_rfl) (by kernel_rfl) (by kernel_rfl) qhb20 (fun f => f) (m := 1) (by kernel_rfl) rfl ?_
         refine GI_static [7, 8, 9, 10, 11, 12] [(3, nt now), (11, pt b13), (15, nt (10 + (cvPeriod level 8))), (116, pt v14), (119, pt b13)] (by kernel_rfl) ?_
         refine GI_cell 30 (.tmp 119) 0 (pt l15) (some 120) (by kernel_rfl) (by kernel_rfl) (by kernel_rfl) qhb20 (fun f => f) (m := 1) (by kernel_rfl) rfl ?_
         refine GI_static [11, 12] [(11, pt b13), (116, pt v14), (120, pt l15), (123, nt (imax (10 + (cvPeriod level 8)) now))] (by kernel_rfl) ?_
         obtain ⟨s6b, s6c⟩ := pr6 (aye := aye) (won := (aye == approved)) (level := level) (n := n) (st := 2) (now := now) (by omega)
         refine GI_call0 { callee := (Callee.value (Operand.func 28)), args := #[(Operand.tmp 116), (Operand.tmp 120), (Operand.const (Value.int IntKind.i64 1)), (Operand.const (Value.int IntKind.i64 2)), (Operand.tmp 123)], argTypes := #[31, 30, 3, 3, 3] } 28 #[pt v14, pt l15, nt 1, nt 2, nt (imax (10 + (cvPeriod level 8)) now)] (some 124) (by kernel_rfl) (by kernel_rfl) (by kernel_rfl) (by kernel_rfl) (by kernel_rfl) (unlock_spec F102 F105 v14 l15 (prS4 aye level n 2 (prR (aye == approved) level now n)) prX (prC (aye == approved) aye level now n) 1 2 (imax (10 + (cvPeriod level 8)) now) _ ho103 ho106 hdis108 (by first | exact prC_len _ _ _ _ _ | decide | exact Nat.lt_trans (raise_lt (m := 1) (by decide) _ _ _) (by decide) | exact Nat.lt_trans (raise_lt (raise_lt (m := 1) (by decide) _ _ _) _ _ _) (by decide) | exact Nat.lt_trans (raise_lt (raise_lt (raise_lt (m := 1) (by decide) _ _ _) _ _ _) _ _ _) (by decide) | exact Nat.lt_trans (raise_lt (raise_lt (raise_lt (raise_lt (m := 1) (by decide) _ _ _) _ _ _) _ _ _) _ _ _) (by decide))) ?_
         rintro _ w127 ⟨rfl, ⟨F129, F132, ho130, ho133, hfr131, hfr134, hdis135⟩, hk128⟩
         refine ⟨_, rfl, ?_⟩
         have hsz136 := Keep.size hk128
         replace hb20 := hb20.keep hk128 (fun hs => by rcases hs with hs | hs; (have u0 := own111 _ hs; have u1 := lt110 _ hs; omega); (have u0 := own113 _ hs; have u1 := lt112 _ hs; omega))
         replace hK0 := Keep.fresh hK0 hk128 (by intro i hi hs; first | exact hs | (rcases hs with hs | hs; (have u0 := own111 i hs; have u1 := lt110 i hs; omega); (have u0 := own113 i hs; have u1 := lt112 i hs; omega)))
         have own138 : ∀ q, F129 q → w7.heap.size ≤ q ∧ q ≠ b13 := fun q hq => by rcases hfr131 q hq with h | h; (have h1 := own111 q h; have h2 := lt110 q h; omega); omega
         have lt137 := VotT.lt ho130
         have own140 : ∀ q, F132 q → w7.heap.size ≤ q ∧ q ≠ b13 := fun q hq => by rcases hfr134 q hq with h | h; (have h1 := own113 q h; have h2 := lt112 q h; omega); omega
         have lt139 := Led.lt ho133
         replace ho130 : VotT F129 w127 v14 (prS4 aye level n 2 RecS.zero) := by rw [s6b] at ho130; exact ho130
         replace ho133 : Led F132 w127 l15 prX (lockC (prC (aye == approved) aye level now n) 1 2 0) := by rw [s6c _] at ho133; exact ho133
         refine GI_pick [(11, pt b13), (124, nt (unlE 1 2))] (by kernel_rfl) ?_
         refine GI_eq [(11, pt b13), (124, nt 0)] (by rw [s5a]) ?_
         refine GI_static [] [(11, pt b13), (18, nt 0)] (by kernel_rfl) ?_
         refine GI_end ?_
         refine X_then ?_
         refine V_seq ?_
         refine V_region ?_
         refine OI_static 6 [(11, pt b13), (127, .bool true), (130, pt b13)] (by kernel_rfl) ?_
         refine OI_cell 30 (.tmp 130) 0 (pt l15) (some 131) (by kernel_rfl) (by kernel_rfl) hb20 (m := 1) (by kernel_rfl) rfl ?_
         refine OI_call { callee := (Callee.value (Operand.func 21)), args := #[(Operand.tmp 131), (Operand.const (Value.int IntKind.i64 1))], argTypes := #[30, 3] } 21 #[pt l15, nt 1] (some 132) (by kernel_rfl) (by kernel_rfl) (by kernel_rfl) (locked_spec F132 l15 prX (lockC (prC (aye == approved) aye level now n) 1 2 0) 1 _ ho133) ?_
         rintro _ w141 ⟨rfl, hk142⟩
         refine ⟨_, rfl, ?_⟩
         have hsz143 := Keep.size hk142
         replace hb20 := hb20.keep hk142 (fun f => f)
         replace hK0 := Keep.tr hK0 (Keep.ofNone hk142)
         replace ho130 := VotT.keep ho130 hk142 (fun _ _ f => f)
         replace ho133 := Led.keep ho133 hk142 (fun _ _ f => f)
         refine OI_pick [(11, pt b13), (127, .bool true), (132, nt (lockedL (lockC (prC (aye == approved) aye level now n) 1 2 0) 1))] (by kernel_rfl) ?_
         refine OI_eq [(11, pt b13), (127, .bool true), (132, nt 0)] (by rw [(pr_lk (by omega) (by omega)).2]) ?_
         refine OI_static 14 [(135, .bool true), (138, pt b13)] (by kernel_rfl) ?_
         refine OI_cell 30 (.tmp 138) 0 (pt l15) (some 139) (by kernel_rfl) (by kernel_rfl) hb20 (m := 1) (by kernel_rfl) rfl ?_
         refine OI_call { callee := (Callee.value (Operand.func 34)), args := #[(Operand.tmp 139), (Operand.const (Value.int IntKind.i64 1)), (Operand.const (Value.int IntKind.i64 0)), (Operand.const (Value.int IntKind.i64 1000))], argTypes := #[30, 3, 3, 3] } 34 #[pt l15, nt 1, nt 0, nt 1000] (some 140) (by kernel_rfl) (by kernel_rfl) (by kernel_rfl) (transfer_spec F132 l15 prX (lockC (prC (aye == approved) aye level now n) 1 2 0) 1 0 1000 _ ho133) ?_
         rintro _ w146 ⟨rfl, ⟨F148, ho149, hfr150⟩, hk147⟩
         refine ⟨_, rfl, ?_⟩
         have hsz151 := Keep.size hk147
         replace hK0 := Keep.fresh hK0 hk147 (by intro i hi hs; first | exact hs | (exfalso; have h1 := own140 i hs; have h2 := lt139 i hs; omega) | (have h1 := own140 i hs; have h2 := lt139 i hs; show _ ∨ _; omega))
         replace ho130 := VotT.keep ho130 hk147 (fun q hq hs => (fun q h1 h2 => hdis135 q h2 h1) q hs hq)
         have own153 : ∀ q, F148 q → w7.heap.size ≤ q := fun q hq => by rcases hfr150 q hq with h | h; (have h1 := own140 q h; have h2 := lt139 q h; omega); omega
         have lt152 := Led.lt ho149
         have dis154 : ∀ q, F148 q → ¬ F129 q := fun q h1 h2 => by rcases hfr150 q h1 with h | h; exact (fun q h1 h2 => hdis135 q h2 h1) q h h2; (have h4 := lt137 q h2; omega)
         refine OI_pick [(135, .bool true), (140, nt (transE prX (lockC (prC (aye == approved) aye level now n) 1 2 0) 1 0 1000))] (by kernel_rfl) ?_
         refine OI_eq [(135, .bool true), (140, nt 0)] (by rw [pr_tr (pr_lk (by omega) (by omega)).2]) ?_
         refine OI_static 19 [(143, .bool true)] (by kernel_rfl) ?_
         refine OI_call { callee := (Callee.value (Operand.func 22)), args := #[], argTypes := #[] } 22 #[] (some 144) (by kernel_rfl) (by kernel_rfl) (by kernel_rfl) (known_spec _) ?_
         rintro _ w155 ⟨rfl, hk156⟩
         refine ⟨_, rfl, ?_⟩
         have hsz157 := Keep.size hk156
         replace hK0 := Keep.tr hK0 (Keep.ofNone hk156)
         replace ho130 := VotT.keep ho130 hk156 (fun _ _ f => f)
         replace ho149 := Led.keep ho149 hk156 (fun _ _ f => f)
         refine OI_static 22 [(10, .bool true)] (by kernel_rfl) ?_
         refine OI_end rfl ?_
         refine X_then ?_
         refine V_ret ?_
         exact X_return (.bool true) rfl ⟨rfl, hK0⟩
        ·
         refine OI_eq [(3, nt now), (4, nt n), (11, pt b13), (13, nt 0), (14, nt 0), (15, nt (10 + (cvPeriod level 8))), (16, nt 0), (17, nt 0), (92, .bool true)] (by first | rfl | rw [hg114]) ?_
         refine OI_static 8 [(3, nt now), (4, nt n), (11, pt b13), (13, nt 0), (14, nt 0), (15, nt (10 + (cvPeriod level 8))), (16, nt 0), (17, nt 0), (96, .bool (decide (10 + (cvPeriod level 8) > now)))] (by kernel_rfl) ?_
         refine OI_end rfl ?_
         refine X_then ?_
         refine V_if (10 + (cvPeriod level 8) > now) (by kernel_rfl) (fun hc158 => ?_) (fun hc158 => ?_)
         ·
          refine V_region ?_
          refine OI_static 2 [(3, nt now), (11, pt b13), (13, nt 0), (14, nt 0), (15, nt (10 + (cvPeriod level 8))), (16, nt 0), (17, nt n)] (by kernel_rfl) ?_
          refine OI_end rfl ?_
          refine X_then ?_
          refine V_seq ?_
          refine V_seq ?_
          refine V_region ?_
          refine OI_static 10 [(3, nt now), (11, pt b13), (15, nt (10 + (cvPeriod level 8))), (17, nt n), (104, .bool false), (107, pt b13)] (by kernel_rfl) ?_
          refine OI_cell 30 (.tmp 107) 0 (pt l15) (some 108) (by kernel_rfl) (by kernel_rfl) hb20 (m := 1) (by kernel_rfl) rfl ?_
          have hpm161 : prM (aye == approved) level now n = n := if_pos ⟨hg114, hc158⟩
          refine OI_call { callee := (Callee.value (Operand.func 21)), args := #[(Operand.tmp 108), (Operand.const (Value.int IntKind.i64 1))], argTypes := #[30, 3] } 21 #[pt l15, nt 1] (some 109) (by kernel_rfl) (by kernel_rfl) (by kernel_rfl) (locked_spec F105 l15 prX (prC (aye == approved) aye level now n) 1 _ ho106) ?_
          rintro _ w159 ⟨rfl, hk160⟩
          refine ⟨_, rfl, ?_⟩
          have hsz162 := Keep.size hk160
          replace hb20 := hb20.keep hk160 (fun f => f)
          replace hK0 := Keep.tr hK0 (Keep.ofNone hk160)
          replace ho103 := VotT.keep ho103 hk160 (fun _ _ f => f)
          replace ho106 := Led.keep ho106 hk160 (fun _ _ f => f)
          refine OI_pick [(3, nt now), (11, pt b13), (15, nt (10 + (cvPeriod level 8))), (17, nt n), (104, .bool false), (109, nt (lockedL (prC (aye == approved) aye level now n) 1))] (by kernel_rfl) ?_
          refine OI_eq [(3, nt now), (11, pt b13), (15, nt (10 + (cvPeriod level 8))), (17, nt n), (104, .bool false), (109, nt n)] (by rw [(pr_lk (by omega) (by omega)).1, hpm161]) ?_
          refine OI_static 15 [(3, nt now), (11, pt b13), (15, nt (10 + (cvPeriod level 8))), (112, .bool (!(decide (n = n))))] (by kernel_rfl) ?_
          refine OI_end rfl ?_
          refine X_then ?_
          refine V_eq [(3, nt now), (11, pt b13), (15, nt (10 + (cvPeriod level 8))), (112, .bool false)] (by rw [decide_eq_true (rfl : n = n)]; rfl) ?_
          refine V_false rfl ?_
          refine V_skip ?_
          refine X_then ?_
          refine V_seq ?_
          refine V_draws (acts [11]) none_ [[0, 1, 2, 3, 4, 5, 6, 7, 8, 9, 10, 11, 12]] (by kernel_rfl) (by repeat first | exact sure_body (by rintro _ _ ⟨h, _⟩; exact ⟨_, h⟩) | refine sure_then ?_ | refine sure_block ?_ | refine sure_join ?_) (by kernel_rfl) ?_
          intro w165 hk164 he166 L hL167
          have hsz168 := Keep.size hk164
          replace hb20 := hb20.keep hk164 (fun f => f)
          replace hK0 := Keep.tr hK0 (Keep.ofNone hk164)
          replace ho103 := VotT.keep ho103 hk164 (fun _ _ f => f)
          replace ho106 := Led.keep ho106 hk164 (fun _ _ f => f)
          have qhb20 := hb20
          have K169 : Keep none_ w165 w165 := Keep.refl _ _
          obtain rfl := List.mem_singleton.1 hL167
          refine GI_static [3, 4, 5, 6, 7, 8, 9, 10, 11, 12] [(3, nt now), (11, pt b13), (15, nt (10 + (cvPeriod level 8))), (115, .pointer (some ⟨b13, 1, none⟩))] (by kernel_rfl) ?_
          refine GI_cell 31 (.tmp 115) 1 (pt v14) (some 116) (by kernel_rfl) (by kernel_rfl) (by kernel_rfl) qhb20 (fun f => f) (m := 1) (by kernel_rfl) rfl ?_
          refine GI_static [7, 8, 9, 10, 11, 12] [(3, nt now), (11, pt b13), (15, nt (10 + (cvPeriod level 8))), (116, pt v14), (119, pt b13)] (by kernel_rfl) ?_
          refine GI_cell 30 (.tmp 119) 0 (pt l15) (some 120) (by kernel_rfl) (by kernel_rfl) (by kernel_rfl) qhb20 (fun f => f) (m := 1) (by kernel_rfl) rfl ?_
          refine GI_static [11, 12] [(11, pt b13), (116, pt v14), (120, pt l15), (123, nt (imax (10 + (cvPeriod level 8)) now))] (by kernel_rfl) ?_
          obtain ⟨s6b, s6c⟩ := pr6 (aye := aye) (won := (aye == approved)) (level := level) (n := n) (st := 2) (now := now) (by omega)
          refine GI_call0 { callee := (Callee.value (Operand.func 28)), args := #[(Operand.tmp 116), (Operand.tmp 120), (Operand.const (Value.int IntKind.i64 1)), (Operand.const (Value.int IntKind.i64 2)), (Operand.tmp 123)], argTypes := #[31, 30, 3, 3, 3] } 28 #[pt v14, pt l15, nt 1, nt 2, nt (imax (10 + (cvPeriod level 8)) now)] (some 124) (by kernel_rfl) (by kernel_rfl) (by kernel_rfl) (by kernel_rfl) (by kernel_rfl) (unlock_spec F102 F105 v14 l15 (prS4 aye level n 2 (prR (aye == approved) level now n)) prX (prC (aye == approved) aye level now n) 1 2 (imax (10 + (cvPeriod level 8)) now) _ ho103 ho106 hdis108 (by first | exact prC_len _ _ _ _ _ | decide | exact Nat.lt_trans (raise_lt (m := 1) (by decide) _ _ _) (by decide) | exact Nat.lt_trans (raise_lt (raise_lt (m := 1) (by decide) _ _ _) _ _ _) (by decide) | exact Nat.lt_trans (raise_lt (raise_lt (raise_lt (m := 1) (by decide) _ _ _) _ _ _) _ _ _) (by decide) | exact Nat.lt_trans (raise_lt (raise_lt (raise_lt (raise_lt (m := 1) (by decide) _ _ _) _ _ _) _ _ _) _ _ _) (by decide))) ?_
          rintro _ w172 ⟨rfl, ⟨F174, F177, ho175, ho178, hfr176, hfr179, hdis180⟩, hk173⟩
          refine ⟨_, rfl, ?_⟩
          have hsz181 := Keep.size hk173
          replace hb20 := hb20.keep hk173 (fun hs => by rcases hs with hs | hs; (have u0 := own111 _ hs; have u1 := lt110 _ hs; omega); (have u0 := own113 _ hs; have u1 := lt112 _ hs; omega))
          replace hK0 := Keep.fresh hK0 hk173 (by intro i hi hs; first | exact hs | (rcases hs with hs | hs; (have u0 := own111 i hs; have u1 := lt110 i hs; omega); (have u0 := own113 i hs; have u1 := lt112 i hs; omega)))
          have own183 : ∀ q, F174 q → w7.heap.size ≤ q ∧ q ≠ b13 := fun q hq => by rcases hfr176 q hq with h | h; (have h1 := own111 q h; have h2 := lt110 q h; omega); omega
          have lt182 := VotT.lt ho175
          have own185 : ∀ q, F177 q → w7.heap.size ≤ q ∧ q ≠ b13 := fun q hq => by rcases hfr179 q hq with h | h; (have h1 := own113 q h; have h2 := lt112 q h; omega); omega
          have lt184 := Led.lt ho178
          replace ho175 : VotT F174 w172 v14 (prS4 aye level n 2 RecS.zero) := by rw [s6b] at ho175; exact ho175
          replace ho178 : Led F177 w172 l15 prX (lockC (prC (aye == approved) aye level now n) 1 2 0) := by rw [s6c _] at ho178; exact ho178
          refine GI_pick [(11, pt b13), (124, nt (unlE 1 2))] (by kernel_rfl) ?_
          refine GI_eq [(11, pt b13), (124, nt 0)] (by rw [s5a]) ?_
          refine GI_static [] [(11, pt b13), (18, nt 0)] (by kernel_rfl) ?_
          refine GI_end ?_
          refine X_then ?_
          refine V_seq ?_
          refine V_region ?_
          refine OI_static 6 [(11, pt b13), (127, .bool true), (130, pt b13)] (by kernel_rfl) ?_
          refine OI_cell 30 (.tmp 130) 0 (pt l15) (some 131) (by kernel_rfl) (by kernel_rfl) hb20 (m := 1) (by kernel_rfl) rfl ?_
          refine OI_call { callee := (Callee.value (Operand.func 21)), args := #[(Operand.tmp 131), (Operand.const (Value.int IntKind.i64 1))], argTypes := #[30, 3] } 21 #[pt l15, nt 1] (some 132) (by kernel_rfl) (by kernel_rfl) (by kernel_rfl) (locked_spec F177 l15 prX (lockC (prC (aye == approved) aye level now n) 1 2 0) 1 _ ho178) ?_
          rintro _ w186 ⟨rfl, hk187⟩
          refine ⟨_, rfl, ?_⟩
          have hsz188 := Keep.size hk187
          replace hb20 := hb20.keep hk187 (fun f => f)
          replace hK0 := Keep.tr hK0 (Keep.ofNone hk187)
          replace ho175 := VotT.keep ho175 hk187 (fun _ _ f => f)
          replace ho178 := Led.keep ho178 hk187 (fun _ _ f => f)
          refine OI_pick [(11, pt b13), (127, .bool true), (132, nt (lockedL (lockC (prC (aye == approved) aye level now n) 1 2 0) 1))] (by kernel_rfl) ?_
          refine OI_eq [(11, pt b13), (127, .bool true), (132, nt 0)] (by rw [(pr_lk (by omega) (by omega)).2]) ?_
          refine OI_static 14 [(135, .bool true), (138, pt b13)] (by kernel_rfl) ?_
          refine OI_cell 30 (.tmp 138) 0 (pt l15) (some 139) (by kernel_rfl) (by kernel_rfl) hb20 (m := 1) (by kernel_rfl) rfl ?_
          refine OI_call { callee := (Callee.value (Operand.func 34)), args := #[(Operand.tmp 139), (Operand.const (Value.int IntKind.i64 1)), (Operand.const (Value.int IntKind.i64 0)), (Operand.const (Value.int IntKind.i64 1000))], argTypes := #[30, 3, 3, 3] } 34 #[pt l15, nt 1, nt 0, nt 1000] (some 140) (by kernel_rfl) (by kernel_rfl) (by kernel_rfl) (transfer_spec F177 l15 prX (lockC (prC (aye == approved) aye level now n) 1 2 0) 1 0 1000 _ ho178) ?_
          rintro _ w191 ⟨rfl, ⟨F193, ho194, hfr195⟩, hk192⟩
          refine ⟨_, rfl, ?_⟩
          have hsz196 := Keep.size hk192
          replace hK0 := Keep.fresh hK0 hk192 (by intro i hi hs; first | exact hs | (exfalso; have h1 := own185 i hs; have h2 := lt184 i hs; omega) | (have h1 := own185 i hs; have h2 := lt184 i hs; show _ ∨ _; omega))
          replace ho175 := VotT.keep ho175 hk192 (fun q hq hs => (fun q h1 h2 => hdis180 q h2 h1) q hs hq)
          have own198 : ∀ q, F193 q → w7.heap.size ≤ q := fun q hq => by rcases hfr195 q hq with h | h; (have h1 := own185 q h; have h2 := lt184 q h; omega); omega
          have lt197 := Led.lt ho194
          have dis199 : ∀ q, F193 q → ¬ F174 q := fun q h1 h2 => by rcases hfr195 q h1 with h | h; exact (fun q h1 h2 => hdis180 q h2 h1) q h h2; (have h4 := lt182 q h2; omega)
          refine OI_pick [(135, .bool true), (140, nt (transE prX (lockC (prC (aye == approved) aye level now n) 1 2 0) 1 0 1000))] (by kernel_rfl) ?_
          refine OI_eq [(135, .bool true), (140, nt 0)] (by rw [pr_tr (pr_lk (by omega) (by omega)).2]) ?_
          refine OI_static 19 [(143, .bool true)] (by kernel_rfl) ?_
          refine OI_call { callee := (Callee.value (Operand.func 22)), args := #[], argTypes := #[] } 22 #[] (some 144) (by kernel_rfl) (by kernel_rfl) (by kernel_rfl) (known_spec _) ?_
          rintro _ w200 ⟨rfl, hk201⟩
          refine ⟨_, rfl, ?_⟩
          have hsz202 := Keep.size hk201
          replace hK0 := Keep.tr hK0 (Keep.ofNone hk201)
          replace ho175 := VotT.keep ho175 hk201 (fun _ _ f => f)
          replace ho194 := Led.keep ho194 hk201 (fun _ _ f => f)
          refine OI_static 22 [(10, .bool true)] (by kernel_rfl) ?_
          refine OI_end rfl ?_
          refine X_then ?_
          refine V_ret ?_
          exact X_return (.bool true) rfl ⟨rfl, hK0⟩
         ·
          refine V_skip ?_
          refine X_then ?_
          refine V_seq ?_
          refine V_seq ?_
          refine V_region ?_
          refine OI_static 10 [(3, nt now), (11, pt b13), (15, nt (10 + (cvPeriod level 8))), (17, nt 0), (104, .bool false), (107, pt b13)] (by kernel_rfl) ?_
          refine OI_cell 30 (.tmp 107) 0 (pt l15) (some 108) (by kernel_rfl) (by kernel_rfl) hb20 (m := 1) (by kernel_rfl) rfl ?_
          have hpm205 : prM (aye == approved) level now n = 0 := if_neg (fun e => hc158 e.2)
          refine OI_call { callee := (Callee.value (Operand.func 21)), args := #[(Operand.tmp 108), (Operand.const (Value.int IntKind.i64 1))], argTypes := #[30, 3] } 21 #[pt l15, nt 1] (some 109) (by kernel_rfl) (by kernel_rfl) (by kernel_rfl) (locked_spec F105 l15 prX (prC (aye == approved) aye level now n) 1 _ ho106) ?_
          rintro _ w203 ⟨rfl, hk204⟩
          refine ⟨_, rfl, ?_⟩
          have hsz206 := Keep.size hk204
          replace hb20 := hb20.keep hk204 (fun f => f)
          replace hK0 := Keep.tr hK0 (Keep.ofNone hk204)
          replace ho103 := VotT.keep ho103 hk204 (fun _ _ f => f)
          replace ho106 := Led.keep ho106 hk204 (fun _ _ f => f)
          refine OI_pick [(3, nt now), (11, pt b13), (15, nt (10 + (cvPeriod level 8))), (17, nt 0), (104, .bool false), (109, nt (lockedL (prC (aye == approved) aye level now n) 1))] (by kernel_rfl) ?_
          refine OI_eq [(3, nt now), (11, pt b13), (15, nt (10 + (cvPeriod level 8))), (17, nt 0), (104, .bool false), (109, nt 0)] (by rw [(pr_lk (by omega) (by omega)).1, hpm205]) ?_
          refine OI_static 15 [(3, nt now), (11, pt b13), (15, nt (10 + (cvPeriod level 8))), (112, .bool false)] (by kernel_rfl) ?_
          refine OI_end rfl ?_
          refine X_then ?_
          refine V_false rfl ?_
          refine V_skip ?_
          refine X_then ?_
          refine V_seq ?_
          refine V_draws (acts [11]) none_ [[0, 1, 2, 3, 4, 5, 6, 7, 8, 9, 10, 11, 12]] (by kernel_rfl) (by repeat first | exact sure_body (by rintro _ _ ⟨h, _⟩; exact ⟨_, h⟩) | refine sure_then ?_ | refine sure_block ?_ | refine sure_join ?_) (by kernel_rfl) ?_
          intro w208 hk207 he209 L hL210
          have hsz211 := Keep.size hk207
          replace hb20 := hb20.keep hk207 (fun f => f)
          replace hK0 := Keep.tr hK0 (Keep.ofNone hk207)
          replace ho103 := VotT.keep ho103 hk207 (fun _ _ f => f)
          replace ho106 := Led.keep ho106 hk207 (fun _ _ f => f)
          have qhb20 := hb20
          have K212 : Keep none_ w208 w208 := Keep.refl _ _
          obtain rfl := List.mem_singleton.1 hL210
          refine GI_static [3, 4, 5, 6, 7, 8, 9, 10, 11, 12] [(3, nt now), (11, pt b13), (15, nt (10 + (cvPeriod level 8))), (115, .pointer (some ⟨b13, 1, none⟩))] (by kernel_rfl) ?_
          refine GI_cell 31 (.tmp 115) 1 (pt v14) (some 116) (by kernel_rfl) (by kernel_rfl) (by kernel_rfl) qhb20 (fun f => f) (m := 1) (by kernel_rfl) rfl ?_
          refine GI_static [7, 8, 9, 10, 11, 12] [(3, nt now), (11, pt b13), (15, nt (10 + (cvPeriod level 8))), (116, pt v14), (119, pt b13)] (by kernel_rfl) ?_
          refine GI_cell 30 (.tmp 119) 0 (pt l15) (some 120) (by kernel_rfl) (by kernel_rfl) (by kernel_rfl) qhb20 (fun f => f) (m := 1) (by kernel_rfl) rfl ?_
          refine GI_static [11, 12] [(11, pt b13), (116, pt v14), (120, pt l15), (123, nt (imax (10 + (cvPeriod level 8)) now))] (by kernel_rfl) ?_
          obtain ⟨s6b, s6c⟩ := pr6 (aye := aye) (won := (aye == approved)) (level := level) (n := n) (st := 2) (now := now) (by omega)
          refine GI_call0 { callee := (Callee.value (Operand.func 28)), args := #[(Operand.tmp 116), (Operand.tmp 120), (Operand.const (Value.int IntKind.i64 1)), (Operand.const (Value.int IntKind.i64 2)), (Operand.tmp 123)], argTypes := #[31, 30, 3, 3, 3] } 28 #[pt v14, pt l15, nt 1, nt 2, nt (imax (10 + (cvPeriod level 8)) now)] (some 124) (by kernel_rfl) (by kernel_rfl) (by kernel_rfl) (by kernel_rfl) (by kernel_rfl) (unlock_spec F102 F105 v14 l15 (prS4 aye level n 2 (prR (aye == approved) level now n)) prX (prC (aye == approved) aye level now n) 1 2 (imax (10 + (cvPeriod level 8)) now) _ ho103 ho106 hdis108 (by first | exact prC_len _ _ _ _ _ | decide | exact Nat.lt_trans (raise_lt (m := 1) (by decide) _ _ _) (by decide) | exact Nat.lt_trans (raise_lt (raise_lt (m := 1) (by decide) _ _ _) _ _ _) (by decide) | exact Nat.lt_trans (raise_lt (raise_lt (raise_lt (m := 1) (by decide) _ _ _) _ _ _) _ _ _) (by decide) | exact Nat.lt_trans (raise_lt (raise_lt (raise_lt (raise_lt (m := 1) (by decide) _ _ _) _ _ _) _ _ _) _ _ _) (by decide))) ?_
          rintro _ w215 ⟨rfl, ⟨F217, F220, ho218, ho221, hfr219, hfr222, hdis223⟩, hk216⟩
          refine ⟨_, rfl, ?_⟩
          have hsz224 := Keep.size hk216
          replace hb20 := hb20.keep hk216 (fun hs => by rcases hs with hs | hs; (have u0 := own111 _ hs; have u1 := lt110 _ hs; omega); (have u0 := own113 _ hs; have u1 := lt112 _ hs; omega))
          replace hK0 := Keep.fresh hK0 hk216 (by intro i hi hs; first | exact hs | (rcases hs with hs | hs; (have u0 := own111 i hs; have u1 := lt110 i hs; omega); (have u0 := own113 i hs; have u1 := lt112 i hs; omega)))
          have own226 : ∀ q, F217 q → w7.heap.size ≤ q ∧ q ≠ b13 := fun q hq => by rcases hfr219 q hq with h | h; (have h1 := own111 q h; have h2 := lt110 q h; omega); omega
          have lt225 := VotT.lt ho218
          have own228 : ∀ q, F220 q → w7.heap.size ≤ q ∧ q ≠ b13 := fun q hq => by rcases hfr222 q hq with h | h; (have h1 := own113 q h; have h2 := lt112 q h; omega); omega
          have lt227 := Led.lt ho221
          replace ho218 : VotT F217 w215 v14 (prS4 aye level n 2 RecS.zero) := by rw [s6b] at ho218; exact ho218
          replace ho221 : Led F220 w215 l15 prX (lockC (prC (aye == approved) aye level now n) 1 2 0) := by rw [s6c _] at ho221; exact ho221
          refine GI_pick [(11, pt b13), (124, nt (unlE 1 2))] (by kernel_rfl) ?_
          refine GI_eq [(11, pt b13), (124, nt 0)] (by rw [s5a]) ?_
          refine GI_static [] [(11, pt b13), (18, nt 0)] (by kernel_rfl) ?_
          refine GI_end ?_
          refine X_then ?_
          refine V_seq ?_
          refine V_region ?_
          refine OI_static 6 [(11, pt b13), (127, .bool true), (130, pt b13)] (by kernel_rfl) ?_
          refine OI_cell 30 (.tmp 130) 0 (pt l15) (some 131) (by kernel_rfl) (by kernel_rfl) hb20 (m := 1) (by kernel_rfl) rfl ?_
          refine OI_call { callee := (Callee.value (Operand.func 21)), args := #[(Operand.tmp 131), (Operand.const (Value.int IntKind.i64 1))], argTypes := #[30, 3] } 21 #[pt l15, nt 1] (some 132) (by kernel_rfl) (by kernel_rfl) (by kernel_rfl) (locked_spec F220 l15 prX (lockC (prC (aye == approved) aye level now n) 1 2 0) 1 _ ho221) ?_
          rintro _ w229 ⟨rfl, hk230⟩
          refine ⟨_, rfl, ?_⟩
          have hsz231 := Keep.size hk230
          replace hb20 := hb20.keep hk230 (fun f => f)
          replace hK0 := Keep.tr hK0 (Keep.ofNone hk230)
          replace ho218 := VotT.keep ho218 hk230 (fun _ _ f => f)
          replace ho221 := Led.keep ho221 hk230 (fun _ _ f => f)
          refine OI_pick [(11, pt b13), (127, .bool true), (132, nt (lockedL (lockC (prC (aye == approved) aye level now n) 1 2 0) 1))] (by kernel_rfl) ?_
          refine OI_eq [(11, pt b13), (127, .bool true), (132, nt 0)] (by rw [(pr_lk (by omega) (by omega)).2]) ?_
          refine OI_static 14 [(135, .bool true), (138, pt b13)] (by kernel_rfl) ?_
          refine OI_cell 30 (.tmp 138) 0 (pt l15) (some 139) (by kernel_rfl) (by kernel_rfl) hb20 (m := 1) (by kernel_rfl) rfl ?_
          refine OI_call { callee := (Callee.value (Operand.func 34)), args := #[(Operand.tmp 139), (Operand.const (Value.int IntKind.i64 1)), (Operand.const (Value.int IntKind.i64 0)), (Operand.const (Value.int IntKind.i64 1000))], argTypes := #[30, 3, 3, 3] } 34 #[pt l15, nt 1, nt 0, nt 1000] (some 140) (by kernel_rfl) (by kernel_rfl) (by kernel_rfl) (transfer_spec F220 l15 prX (lockC (prC (aye == approved) aye level now n) 1 2 0) 1 0 1000 _ ho221) ?_
          rintro _ w234 ⟨rfl, ⟨F236, ho237, hfr238⟩, hk235⟩
          refine ⟨_, rfl, ?_⟩
          have hsz239 := Keep.size hk235
          replace hK0 := Keep.fresh hK0 hk235 (by intro i hi hs; first | exact hs | (exfalso; have h1 := own228 i hs; have h2 := lt227 i hs; omega) | (have h1 := own228 i hs; have h2 := lt227 i hs; show _ ∨ _; omega))
          replace ho218 := VotT.keep ho218 hk235 (fun q hq hs => (fun q h1 h2 => hdis223 q h2 h1) q hs hq)
          have own241 : ∀ q, F236 q → w7.heap.size ≤ q := fun q hq => by rcases hfr238 q hq with h | h; (have h1 := own228 q h; have h2 := lt227 q h; omega); omega
          have lt240 := Led.lt ho237
          have dis242 : ∀ q, F236 q → ¬ F217 q := fun q h1 h2 => by rcases hfr238 q h1 with h | h; exact (fun q h1 h2 => hdis223 q h2 h1) q h h2; (have h4 := lt225 q h2; omega)
          refine OI_pick [(135, .bool true), (140, nt (transE prX (lockC (prC (aye == approved) aye level now n) 1 2 0) 1 0 1000))] (by kernel_rfl) ?_
          refine OI_eq [(135, .bool true), (140, nt 0)] (by rw [pr_tr (pr_lk (by omega) (by omega)).2]) ?_
          refine OI_static 19 [(143, .bool true)] (by kernel_rfl) ?_
          refine OI_call { callee := (Callee.value (Operand.func 22)), args := #[], argTypes := #[] } 22 #[] (some 144) (by kernel_rfl) (by kernel_rfl) (by kernel_rfl) (known_spec _) ?_
          rintro _ w243 ⟨rfl, hk244⟩
          refine ⟨_, rfl, ?_⟩
          have hsz245 := Keep.size hk244
          replace hK0 := Keep.tr hK0 (Keep.ofNone hk244)
          replace ho218 := VotT.keep ho218 hk244 (fun _ _ f => f)
          replace ho237 := Led.keep ho237 hk244 (fun _ _ f => f)
          refine OI_static 22 [(10, .bool true)] (by kernel_rfl) ?_
          refine OI_end rfl ?_
          refine X_then ?_
          refine V_ret ?_
          exact X_return (.bool true) rfl ⟨rfl, hK0⟩
       ·
        refine V_skip ?_
        refine X_then ?_
        refine V_seq ?_
        refine V_region ?_
        refine OI_static 3 [(0, nt level), (1, .bool aye), (2, .bool approved), (3, nt now), (4, nt n), (11, pt b13), (12, nt 3), (66, .pointer (some ⟨b13, 1, none⟩))] (by kernel_rfl) ?_
        refine OI_cell 31 (.tmp 66) 1 (pt v14) (some 67) (by kernel_rfl) (by kernel_rfl) hb20 (m := 1) (by kernel_rfl) rfl ?_
        refine OI_static 5 [(0, nt level), (1, .bool aye), (2, .bool approved), (3, nt now), (4, nt n), (11, pt b13), (67, pt v14), (68, nt 3)] (by kernel_rfl) ?_
        obtain ⟨s3a, s3b⟩ := pr3 (aye := aye) (level := level) (n := n) (st := 3) (by decide)
        refine OI_call { callee := (Callee.value (Operand.func 32)), args := #[(Operand.tmp 67), (Operand.const (Value.int IntKind.i64 0)), (Operand.tmp 68), (Operand.const (Value.int IntKind.i64 10))], argTypes := #[31, 3, 3, 3] } 32 #[pt v14, nt 0, nt 3, nt 10] (some 69) (by kernel_rfl) (by kernel_rfl) (by kernel_rfl) (close_specT F53 v14 (prS2 aye level n) 0 3 10 _ ho54) ?_
        rintro _ w248 ⟨rfl, ⟨F250, ho251, hfr252⟩, hk249⟩
        refine ⟨_, rfl, ?_⟩
        have hsz253 := Keep.size hk249
        replace hb20 := hb20.keep hk249 (fun hs => by have h1 := own62 _ hs; have h2 := lt61 _ hs; omega)
        replace hK0 := Keep.fresh hK0 hk249 (by intro i hi hs; first | exact hs | (exfalso; have h1 := own62 i hs; have h2 := lt61 i hs; omega) | (have h1 := own62 i hs; have h2 := lt61 i hs; show _ ∨ _; omega))
        replace ho57 := Led.keep ho57 hk249 (fun q hq hs => hdis59 q hs hq)
        have own255 : ∀ q, F250 q → w7.heap.size ≤ q ∧ q ≠ b13 := fun q hq => by rcases hfr252 q hq with h | h; (have h1 := own62 q h; have h2 := lt61 q h; omega); omega
        have lt254 := VotT.lt ho251
        have dis256 : ∀ q, F250 q → ¬ F56 q := fun q h1 h2 => by rcases hfr252 q h1 with h | h; exact hdis59 q h h2; (have h4 := lt63 q h2; omega)
        replace ho251 : VotT F250 w248 v14 (prS3 aye level n 3) := by rw [s3b] at ho251; exact ho251
        refine OI_pick [(0, nt level), (1, .bool aye), (2, .bool approved), (3, nt now), (4, nt n), (11, pt b13), (69, nt (closeE (prS2 aye level n) 0 3))] (by kernel_rfl) ?_
        refine OI_eq [(0, nt level), (1, .bool aye), (2, .bool approved), (3, nt now), (4, nt n), (11, pt b13), (69, nt 0)] (by rw [s3a]) ?_
        refine OI_static 7 [(0, nt level), (1, .bool aye), (2, .bool approved), (3, nt now), (4, nt n), (11, pt b13), (13, nt 0)] (by kernel_rfl) ?_
        refine OI_end rfl ?_
        refine X_then ?_
        refine V_seq ?_
        refine V_region ?_
        refine OI_static 3 [(0, nt level), (1, .bool aye), (2, .bool approved), (3, nt now), (4, nt n), (11, pt b13), (13, nt 0), (72, .pointer (some ⟨b13, 1, none⟩))] (by kernel_rfl) ?_
        refine OI_cell 31 (.tmp 72) 1 (pt v14) (some 73) (by kernel_rfl) (by kernel_rfl) hb20 (m := 1) (by kernel_rfl) rfl ?_
        refine OI_static 5 [(0, nt level), (1, .bool aye), (2, .bool approved), (3, nt now), (4, nt n), (11, pt b13), (13, nt 0), (73, pt v14), (74, nt now)] (by kernel_rfl) ?_
        obtain ⟨s4a, s4b⟩ := pr4 (aye := aye) (level := level) (n := n) (st := 3) (now := now) (by decide) (by omega) (by omega)
        rw [show wonV (prV aye level n) 3 = (aye == approved) from by rw [hc65]; cases aye <;> kernel_rfl] at s4b
        refine OI_call { callee := (Callee.value (Operand.func 25)), args := #[(Operand.tmp 73), (Operand.const (Value.int IntKind.i64 1)), (Operand.const (Value.int IntKind.i64 0)), (Operand.tmp 74)], argTypes := #[31, 3, 3, 3] } 25 #[pt v14, nt 1, nt 0, nt now] (some 75) (by kernel_rfl) (by kernel_rfl) (by kernel_rfl) (unvote_specT F250 v14 (prS3 aye level n 3) 1 0 now _ ho251) ?_
        rintro _ w259 ⟨rfl, ⟨F261, ho262, hfr263⟩, hk260⟩
        refine ⟨_, rfl, ?_⟩
        have hsz264 := Keep.size hk260
        replace hb20 := hb20.keep hk260 (fun hs => by have h1 := own255 _ hs; have h2 := lt254 _ hs; omega)
        replace hK0 := Keep.fresh hK0 hk260 (by intro i hi hs; first | exact hs | (exfalso; have h1 := own255 i hs; have h2 := lt254 i hs; omega) | (have h1 := own255 i hs; have h2 := lt254 i hs; show _ ∨ _; omega))
        replace ho57 := Led.keep ho57 hk260 (fun q hq hs => dis256 q hs hq)
        have own266 : ∀ q, F261 q → w7.heap.size ≤ q ∧ q ≠ b13 := fun q hq => by rcases hfr263 q hq with h | h; (have h1 := own255 q h; have h2 := lt254 q h; omega); omega
        have lt265 := VotT.lt ho262
        have dis267 : ∀ q, F261 q → ¬ F56 q := fun q h1 h2 => by rcases hfr263 q h1 with h | h; exact dis256 q h h2; (have h4 := lt63 q h2; omega)
        replace ho262 : VotT F261 w259 v14 (prS4 aye level n 3 (prR (aye == approved) level now n)) := by rw [s4b] at ho262; exact ho262
        refine OI_pick [(0, nt level), (1, .bool aye), (2, .bool approved), (3, nt now), (4, nt n), (11, pt b13), (13, nt 0), (75, nt (unvE (prS3 aye level n 3) 1 0))] (by kernel_rfl) ?_
        refine OI_eq [(0, nt level), (1, .bool aye), (2, .bool approved), (3, nt now), (4, nt n), (11, pt b13), (13, nt 0), (75, nt 0)] (by rw [s4a]) ?_
        refine OI_static 7 [(0, nt level), (1, .bool aye), (2, .bool approved), (3, nt now), (4, nt n), (11, pt b13), (13, nt 0), (14, nt 0)] (by kernel_rfl) ?_
        refine OI_end rfl ?_
        refine X_then ?_
        refine V_seq ?_
        refine V_region ?_
        refine OI_static 1 [(1, .bool aye), (2, .bool approved), (3, nt now), (4, nt n), (11, pt b13), (13, nt 0), (14, nt 0), (76, nt level)] (by kernel_rfl) ?_
        refine OI_call { callee := (Callee.value (Operand.func 33)), args := #[(Operand.tmp 76), (Operand.const (Value.int IntKind.i64 8))], argTypes := #[3, 3] } 33 #[nt level, nt 8] (some 77) (by kernel_rfl) (by kernel_rfl) (by kernel_rfl) (rPeriod_spec level 8 _ (by omega)) ?_
        rintro _ w259 ⟨rfl, rfl⟩
        refine ⟨_, rfl, ?_⟩
        have hcp9 := pr_per (level := level) (by omega)
        have hw271 : IntKind.i64.wrap (10 + (cvPeriod level 8)) = 10 + (cvPeriod level 8) := (wrap64_id (by omega) (by omega)).trans (by omega)
        refine OI_static 3 [(1, .bool aye), (2, .bool approved), (3, nt now), (4, nt n), (11, pt b13), (13, nt 0), (14, nt 0), (78, nt (IntKind.i64.wrap (10 + (cvPeriod level 8))))] (by kernel_rfl) ?_
        refine OI_eq [(1, .bool aye), (2, .bool approved), (3, nt now), (4, nt n), (11, pt b13), (13, nt 0), (14, nt 0), (78, nt (10 + (cvPeriod level 8)))] (by rw [hw271]) ?_
        refine OI_static 4 [(1, .bool aye), (2, .bool approved), (3, nt now), (4, nt n), (11, pt b13), (13, nt 0), (14, nt 0), (15, nt (10 + (cvPeriod level 8)))] (by kernel_rfl) ?_
        refine OI_end rfl ?_
        refine X_then ?_
        refine V_seq ?_
        refine V_draws (acts [9]) none_ [[0, 1, 2, 3, 4, 5, 6, 7, 8, 9, 10]] (by kernel_rfl) (by repeat first | exact sure_body (by rintro _ _ ⟨h, _⟩; exact ⟨_, h⟩) | refine sure_then ?_ | refine sure_block ?_ | refine sure_join ?_) (by kernel_rfl) ?_
        intro w273 hk272 he274 L hL275
        have hsz276 := Keep.size hk272
        replace hb20 := hb20.keep hk272 (fun f => f)
        replace hK0 := Keep.tr hK0 (Keep.ofNone hk272)
        replace ho57 := Led.keep ho57 hk272 (fun _ _ f => f)
        replace ho262 := VotT.keep ho262 hk272 (fun _ _ f => f)
        have qhb20 := hb20
        have K277 : Keep none_ w273 w273 := Keep.refl _ _
        obtain rfl := List.mem_singleton.1 hL275
        refine GI_static [3, 4, 5, 6, 7, 8, 9, 10] [(1, .bool aye), (2, .bool approved), (3, nt now), (4, nt n), (11, pt b13), (13, nt 0), (14, nt 0), (15, nt (10 + (cvPeriod level 8))), (81, .pointer (some ⟨b13, 1, none⟩))] (by kernel_rfl) ?_
        refine GI_cell 31 (.tmp 81) 1 (pt v14) (some 82) (by kernel_rfl) (by kernel_rfl) (by kernel_rfl) qhb20 (fun f => f) (m := 1) (by kernel_rfl) rfl ?_
        refine GI_static [7, 8, 9, 10] [(1, .bool aye), (2, .bool approved), (3, nt now), (4, nt n), (11, pt b13), (13, nt 0), (14, nt 0), (15, nt (10 + (cvPeriod level 8))), (82, pt v14), (85, pt b13)] (by kernel_rfl) ?_
        refine GI_cell 30 (.tmp 85) 0 (pt l15) (some 86) (by kernel_rfl) (by kernel_rfl) (by kernel_rfl) qhb20 (fun f => f) (m := 1) (by kernel_rfl) rfl ?_
        refine GI_static [9, 10] [(1, .bool aye), (2, .bool approved), (3, nt now), (4, nt n), (11, pt b13), (13, nt 0), (14, nt 0), (15, nt (10 + (cvPeriod level 8))), (82, pt v14), (86, pt l15), (87, nt now)] (by kernel_rfl) ?_
        obtain ⟨s5a, s5b, s5c⟩ := pr5 (aye := aye) (won := (aye == approved)) (level := level) (n := n) (st := 3) (now := now) (by omega)
        refine GI_call0 { callee := (Callee.value (Operand.func 28)), args := #[(Operand.tmp 82), (Operand.tmp 86), (Operand.const (Value.int IntKind.i64 1)), (Operand.const (Value.int IntKind.i64 2)), (Operand.tmp 87)], argTypes := #[31, 30, 3, 3, 3] } 28 #[pt v14, pt l15, nt 1, nt 2, nt now] (some 88) (by kernel_rfl) (by kernel_rfl) (by kernel_rfl) (by kernel_rfl) (by kernel_rfl) (unlock_spec F261 F56 v14 l15 (prS4 aye level n 3 (prR (aye == approved) level now n)) prX (raiseC ([] : List Ci) 1 2 (capI (prV aye level n))) 1 2 now _ ho262 ho57 dis267 (by first | exact prC_len _ _ _ _ _ | decide | exact Nat.lt_trans (raise_lt (m := 1) (by decide) _ _ _) (by decide) | exact Nat.lt_trans (raise_lt (raise_lt (m := 1) (by decide) _ _ _) _ _ _) (by decide) | exact Nat.lt_trans (raise_lt (raise_lt (raise_lt (m := 1) (by decide) _ _ _) _ _ _) _ _ _) (by decide) | exact Nat.lt_trans (raise_lt (raise_lt (raise_lt (raise_lt (m := 1) (by decide) _ _ _) _ _ _) _ _ _) _ _ _) (by decide))) ?_
        rintro _ w280 ⟨rfl, ⟨F282, F285, ho283, ho286, hfr284, hfr287, hdis288⟩, hk281⟩
        refine ⟨_, rfl, ?_⟩
        have hsz289 := Keep.size hk281
        replace hb20 := hb20.keep hk281 (fun hs => by rcases hs with hs | hs; (have u0 := own266 _ hs; have u1 := lt265 _ hs; omega); (have u0 := own64 _ hs; have u1 := lt63 _ hs; omega))
        replace hK0 := Keep.fresh hK0 hk281 (by intro i hi hs; first | exact hs | (rcases hs with hs | hs; (have u0 := own266 i hs; have u1 := lt265 i hs; omega); (have u0 := own64 i hs; have u1 := lt63 i hs; omega)))
        have own291 : ∀ q, F282 q → w7.heap.size ≤ q ∧ q ≠ b13 := fun q hq => by rcases hfr284 q hq with h | h; (have h1 := own266 q h; have h2 := lt265 q h; omega); omega
        have lt290 := VotT.lt ho283
        have own293 : ∀ q, F285 q → w7.heap.size ≤ q ∧ q ≠ b13 := fun q hq => by rcases hfr287 q hq with h | h; (have h1 := own64 q h; have h2 := lt63 q h; omega); omega
        have lt292 := Led.lt ho286
        replace ho283 : VotT F282 w280 v14 (prS4 aye level n 3 (prR (aye == approved) level now n)) := by rw [s5b] at ho283; exact ho283
        replace ho286 : Led F285 w280 l15 prX (prC (aye == approved) aye level now n) := by rw [show unlC (raiseC ([] : List Ci) 1 2 (capI (prV aye level n))) (prS4 aye level n 3 (prR (aye == approved) level now n)) 1 2 now = (prC (aye == approved) aye level now n) from s5c _] at ho286; exact ho286
        refine GI_pick [(1, .bool aye), (2, .bool approved), (3, nt now), (4, nt n), (11, pt b13), (13, nt 0), (14, nt 0), (15, nt (10 + (cvPeriod level 8))), (88, nt (unlE 1 2))] (by kernel_rfl) ?_
        refine GI_eq [(1, .bool aye), (2, .bool approved), (3, nt now), (4, nt n), (11, pt b13), (13, nt 0), (14, nt 0), (15, nt (10 + (cvPeriod level 8))), (88, nt 0)] (by rw [s5a]) ?_
        refine GI_static [] [(1, .bool aye), (2, .bool approved), (3, nt now), (4, nt n), (11, pt b13), (13, nt 0), (14, nt 0), (15, nt (10 + (cvPeriod level 8))), (16, nt 0)] (by kernel_rfl) ?_
        refine GI_end ?_
        refine X_then ?_
        refine V_seq ?_
        refine V_region ?_
        refine OI_static 1 [(1, .bool aye), (2, .bool approved), (3, nt now), (4, nt n), (11, pt b13), (13, nt 0), (14, nt 0), (15, nt (10 + (cvPeriod level 8))), (16, nt 0), (17, nt 0)] (by kernel_rfl) ?_
        refine OI_end rfl ?_
        refine X_then ?_
        refine V_seq ?_
        refine V_seq ?_
        refine V_region ?_
        refine OI_static 4 [(3, nt now), (4, nt n), (11, pt b13), (13, nt 0), (14, nt 0), (15, nt (10 + (cvPeriod level 8))), (16, nt 0), (17, nt 0), (92, .bool (aye == approved))] (by kernel_rfl) ?_
        cases hg294 : (aye == approved)
        ·
         refine OI_eq [(3, nt now), (4, nt n), (11, pt b13), (13, nt 0), (14, nt 0), (15, nt (10 + (cvPeriod level 8))), (16, nt 0), (17, nt 0), (92, .bool false)] (by first | rfl | rw [hg294]) ?_
         refine OI_static 8 [(3, nt now), (4, nt n), (11, pt b13), (13, nt 0), (14, nt 0), (15, nt (10 + (cvPeriod level 8))), (16, nt 0), (17, nt 0), (96, .bool false)] (by kernel_rfl) ?_
         refine OI_end rfl ?_
         refine X_then ?_
         refine V_false rfl ?_
         refine V_skip ?_
         refine X_then ?_
         refine V_seq ?_
         refine V_seq ?_
         refine V_region ?_
         refine OI_static 10 [(3, nt now), (11, pt b13), (15, nt (10 + (cvPeriod level 8))), (17, nt 0), (104, .bool false), (107, pt b13)] (by kernel_rfl) ?_
         refine OI_cell 30 (.tmp 107) 0 (pt l15) (some 108) (by kernel_rfl) (by kernel_rfl) hb20 (m := 1) (by kernel_rfl) rfl ?_
         have hpm297 : prM (aye == approved) level now n = 0 := if_neg (fun e => Bool.noConfusion (hg294.symm.trans e.1))
         refine OI_call { callee := (Callee.value (Operand.func 21)), args := #[(Operand.tmp 108), (Operand.const (Value.int IntKind.i64 1))], argTypes := #[30, 3] } 21 #[pt l15, nt 1] (some 109) (by kernel_rfl) (by kernel_rfl) (by kernel_rfl) (locked_spec F285 l15 prX (prC (aye == approved) aye level now n) 1 _ ho286) ?_
         rintro _ w295 ⟨rfl, hk296⟩
         refine ⟨_, rfl, ?_⟩
         have hsz298 := Keep.size hk296
         replace hb20 := hb20.keep hk296 (fun f => f)
         replace hK0 := Keep.tr hK0 (Keep.ofNone hk296)
         replace ho283 := VotT.keep ho283 hk296 (fun _ _ f => f)
         replace ho286 := Led.keep ho286 hk296 (fun _ _ f => f)
         refine OI_pick [(3, nt now), (11, pt b13), (15, nt (10 + (cvPeriod level 8))), (17, nt 0), (104, .bool false), (109, nt (lockedL (prC (aye == approved) aye level now n) 1))] (by kernel_rfl) ?_
         refine OI_eq [(3, nt now), (11, pt b13), (15, nt (10 + (cvPeriod level 8))), (17, nt 0), (104, .bool false), (109, nt 0)] (by rw [(pr_lk (by omega) (by omega)).1, hpm297]) ?_
         refine OI_static 15 [(3, nt now), (11, pt b13), (15, nt (10 + (cvPeriod level 8))), (112, .bool false)] (by kernel_rfl) ?_
         refine OI_end rfl ?_
         refine X_then ?_
         refine V_false rfl ?_
         refine V_skip ?_
         refine X_then ?_
         refine V_seq ?_
         refine V_draws (acts [11]) none_ [[0, 1, 2, 3, 4, 5, 6, 7, 8, 9, 10, 11, 12]] (by kernel_rfl) (by repeat first | exact sure_body (by rintro _ _ ⟨h, _⟩; exact ⟨_, h⟩) | refine sure_then ?_ | refine sure_block ?_ | refine sure_join ?_) (by kernel_rfl) ?_
         intro w300 hk299 he301 L hL302
         have hsz303 := Keep.size hk299
         replace hb20 := hb20.keep hk299 (fun f => f)
         replace hK0 := Keep.tr hK0 (Keep.ofNone hk299)
         replace ho283 := VotT.keep ho283 hk299 (fun _ _ f => f)
         replace ho286 := Led.keep ho286 hk299 (fun _ _ f => f)
         have qhb20 := hb20
         have K304 : Keep none_ w300 w300 := Keep.refl _ _
         obtain rfl := List.mem_singleton.1 hL302
         refine GI_static [3, 4, 5, 6, 7, 8, 9, 10, 11, 12] [(3, nt now), (11, pt b13), (15, nt (10 + (cvPeriod level 8))), (115, .pointer (some ⟨b13, 1, none⟩))] (by kernel_rfl) ?_
         refine GI_cell 31 (.tmp 115) 1 (pt v14) (some 116) (by kernel_rfl) (by kernel_rfl) (by kernel_rfl) qhb20 (fun f => f) (m := 1) (by kernel_rfl) rfl ?_
         refine GI_static [7, 8, 9, 10, 11, 12] [(3, nt now), (11, pt b13), (15, nt (10 + (cvPeriod level 8))), (116, pt v14), (119, pt b13)] (by kernel_rfl) ?_
         refine GI_cell 30 (.tmp 119) 0 (pt l15) (some 120) (by kernel_rfl) (by kernel_rfl) (by kernel_rfl) qhb20 (fun f => f) (m := 1) (by kernel_rfl) rfl ?_
         refine GI_static [11, 12] [(11, pt b13), (116, pt v14), (120, pt l15), (123, nt (imax (10 + (cvPeriod level 8)) now))] (by kernel_rfl) ?_
         obtain ⟨s6b, s6c⟩ := pr6 (aye := aye) (won := (aye == approved)) (level := level) (n := n) (st := 3) (now := now) (by omega)
         refine GI_call0 { callee := (Callee.value (Operand.func 28)), args := #[(Operand.tmp 116), (Operand.tmp 120), (Operand.const (Value.int IntKind.i64 1)), (Operand.const (Value.int IntKind.i64 2)), (Operand.tmp 123)], argTypes := #[31, 30, 3, 3, 3] } 28 #[pt v14, pt l15, nt 1, nt 2, nt (imax (10 + (cvPeriod level 8)) now)] (some 124) (by kernel_rfl) (by kernel_rfl) (by kernel_rfl) (by kernel_rfl) (by kernel_rfl) (unlock_spec F282 F285 v14 l15 (prS4 aye level n 3 (prR (aye == approved) level now n)) prX (prC (aye == approved) aye level now n) 1 2 (imax (10 + (cvPeriod level 8)) now) _ ho283 ho286 hdis288 (by first | exact prC_len _ _ _ _ _ | decide | exact Nat.lt_trans (raise_lt (m := 1) (by decide) _ _ _) (by decide) | exact Nat.lt_trans (raise_lt (raise_lt (m := 1) (by decide) _ _ _) _ _ _) (by decide) | exact Nat.lt_trans (raise_lt (raise_lt (raise_lt (m := 1) (by decide) _ _ _) _ _ _) _ _ _) (by decide) | exact Nat.lt_trans (raise_lt (raise_lt (raise_lt (raise_lt (m := 1) (by decide) _ _ _) _ _ _) _ _ _) _ _ _) (by decide))) ?_
         rintro _ w307 ⟨rfl, ⟨F309, F312, ho310, ho313, hfr311, hfr314, hdis315⟩, hk308⟩
         refine ⟨_, rfl, ?_⟩
         have hsz316 := Keep.size hk308
         replace hb20 := hb20.keep hk308 (fun hs => by rcases hs with hs | hs; (have u0 := own291 _ hs; have u1 := lt290 _ hs; omega); (have u0 := own293 _ hs; have u1 := lt292 _ hs; omega))
         replace hK0 := Keep.fresh hK0 hk308 (by intro i hi hs; first | exact hs | (rcases hs with hs | hs; (have u0 := own291 i hs; have u1 := lt290 i hs; omega); (have u0 := own293 i hs; have u1 := lt292 i hs; omega)))
         have own318 : ∀ q, F309 q → w7.heap.size ≤ q ∧ q ≠ b13 := fun q hq => by rcases hfr311 q hq with h | h; (have h1 := own291 q h; have h2 := lt290 q h; omega); omega
         have lt317 := VotT.lt ho310
         have own320 : ∀ q, F312 q → w7.heap.size ≤ q ∧ q ≠ b13 := fun q hq => by rcases hfr314 q hq with h | h; (have h1 := own293 q h; have h2 := lt292 q h; omega); omega
         have lt319 := Led.lt ho313
         replace ho310 : VotT F309 w307 v14 (prS4 aye level n 3 RecS.zero) := by rw [s6b] at ho310; exact ho310
         replace ho313 : Led F312 w307 l15 prX (lockC (prC (aye == approved) aye level now n) 1 2 0) := by rw [s6c _] at ho313; exact ho313
         refine GI_pick [(11, pt b13), (124, nt (unlE 1 2))] (by kernel_rfl) ?_
         refine GI_eq [(11, pt b13), (124, nt 0)] (by rw [s5a]) ?_
         refine GI_static [] [(11, pt b13), (18, nt 0)] (by kernel_rfl) ?_
         refine GI_end ?_
         refine X_then ?_
         refine V_seq ?_
         refine V_region ?_
         refine OI_static 6 [(11, pt b13), (127, .bool true), (130, pt b13)] (by kernel_rfl) ?_
         refine OI_cell 30 (.tmp 130) 0 (pt l15) (some 131) (by kernel_rfl) (by kernel_rfl) hb20 (m := 1) (by kernel_rfl) rfl ?_
         refine OI_call { callee := (Callee.value (Operand.func 21)), args := #[(Operand.tmp 131), (Operand.const (Value.int IntKind.i64 1))], argTypes := #[30, 3] } 21 #[pt l15, nt 1] (some 132) (by kernel_rfl) (by kernel_rfl) (by kernel_rfl) (locked_spec F312 l15 prX (lockC (prC (aye == approved) aye level now n) 1 2 0) 1 _ ho313) ?_
         rintro _ w321 ⟨rfl, hk322⟩
         refine ⟨_, rfl, ?_⟩
         have hsz323 := Keep.size hk322
         replace hb20 := hb20.keep hk322 (fun f => f)
         replace hK0 := Keep.tr hK0 (Keep.ofNone hk322)
         replace ho310 := VotT.keep ho310 hk322 (fun _ _ f => f)
         replace ho313 := Led.keep ho313 hk322 (fun _ _ f => f)
         refine OI_pick [(11, pt b13), (127, .bool true), (132, nt (lockedL (lockC (prC (aye == approved) aye level now n) 1 2 0) 1))] (by kernel_rfl) ?_
         refine OI_eq [(11, pt b13), (127, .bool true), (132, nt 0)] (by rw [(pr_lk (by omega) (by omega)).2]) ?_
         refine OI_static 14 [(135, .bool true), (138, pt b13)] (by kernel_rfl) ?_
         refine OI_cell 30 (.tmp 138) 0 (pt l15) (some 139) (by kernel_rfl) (by kernel_rfl) hb20 (m := 1) (by kernel_rfl) rfl ?_
         refine OI_call { callee := (Callee.value (Operand.func 34)), args := #[(Operand.tmp 139), (Operand.const (Value.int IntKind.i64 1)), (Operand.const (Value.int IntKind.i64 0)), (Operand.const (Value.int IntKind.i64 1000))], argTypes := #[30, 3, 3, 3] } 34 #[pt l15, nt 1, nt 0, nt 1000] (some 140) (by kernel_rfl) (by kernel_rfl) (by kernel_rfl) (transfer_spec F312 l15 prX (lockC (prC (aye == approved) aye level now n) 1 2 0) 1 0 1000 _ ho313) ?_
         rintro _ w326 ⟨rfl, ⟨F328, ho329, hfr330⟩, hk327⟩
         refine ⟨_, rfl, ?_⟩
         have hsz331 := Keep.size hk327
         replace hK0 := Keep.fresh hK0 hk327 (by intro i hi hs; first | exact hs | (exfalso; have h1 := own320 i hs; have h2 := lt319 i hs; omega) | (have h1 := own320 i hs; have h2 := lt319 i hs; show _ ∨ _; omega))
         replace ho310 := VotT.keep ho310 hk327 (fun q hq hs => (fun q h1 h2 => hdis315 q h2 h1) q hs hq)
         have own333 : ∀ q, F328 q → w7.heap.size ≤ q := fun q hq => by rcases hfr330 q hq with h | h; (have h1 := own320 q h; have h2 := lt319 q h; omega); omega
         have lt332 := Led.lt ho329
         have dis334 : ∀ q, F328 q → ¬ F309 q := fun q h1 h2 => by rcases hfr330 q h1 with h | h; exact (fun q h1 h2 => hdis315 q h2 h1) q h h2; (have h4 := lt317 q h2; omega)
         refine OI_pick [(135, .bool true), (140, nt (transE prX (lockC (prC (aye == approved) aye level now n) 1 2 0) 1 0 1000))] (by kernel_rfl) ?_
         refine OI_eq [(135, .bool true), (140, nt 0)] (by rw [pr_tr (pr_lk (by omega) (by omega)).2]) ?_
         refine OI_static 19 [(143, .bool true)] (by kernel_rfl) ?_
         refine OI_call { callee := (Callee.value (Operand.func 22)), args := #[], argTypes := #[] } 22 #[] (some 144) (by kernel_rfl) (by kernel_rfl) (by kernel_rfl) (known_spec _) ?_
         rintro _ w335 ⟨rfl, hk336⟩
         refine ⟨_, rfl, ?_⟩
         have hsz337 := Keep.size hk336
         replace hK0 := Keep.tr hK0 (Keep.ofNone hk336)
         replace ho310 := VotT.keep ho310 hk336 (fun _ _ f => f)
         replace ho329 := Led.keep ho329 hk336 (fun _ _ f => f)
         refine OI_static 22 [(10, .bool true)] (by kernel_rfl) ?_
         refine OI_end rfl ?_
         refine X_then ?_
         refine V_ret ?_
         exact X_return (.bool true) rfl ⟨rfl, hK0⟩
        ·
         refine OI_eq [(3, nt now), (4, nt n), (11, pt b13), (13, nt 0), (14, nt 0), (15, nt (10 + (cvPeriod level 8))), (16, nt 0), (17, nt 0), (92, .bool true)] (by first | rfl | rw [hg294]) ?_
         refine OI_static 8 [(3, nt now), (4, nt n), (11, pt b13), (13, nt 0), (14, nt 0), (15, nt (10 + (cvPeriod level 8))), (16, nt 0), (17, nt 0), (96, .bool (decide (10 + (cvPeriod level 8) > now)))] (by kernel_rfl) ?_
         refine OI_end rfl ?_
         refine X_then ?_
         refine V_if (10 + (cvPeriod level 8) > now) (by kernel_rfl) (fun hc338 => ?_) (fun hc338 => ?_)
         ·
          refine V_region ?_
          refine OI_static 2 [(3, nt now), (11, pt b13), (13, nt 0), (14, nt 0), (15, nt (10 + (cvPeriod level 8))), (16, nt 0), (17, nt n)] (by kernel_rfl) ?_
          refine OI_end rfl ?_
          refine X_then ?_
          refine V_seq ?_
          refine V_seq ?_
          refine V_region ?_
          refine OI_static 10 [(3, nt now), (11, pt b13), (15, nt (10 + (cvPeriod level 8))), (17, nt n), (104, .bool false), (107, pt b13)] (by kernel_rfl) ?_
          refine OI_cell 30 (.tmp 107) 0 (pt l15) (some 108) (by kernel_rfl) (by kernel_rfl) hb20 (m := 1) (by kernel_rfl) rfl ?_
          have hpm341 : prM (aye == approved) level now n = n := if_pos ⟨hg294, hc338⟩
          refine OI_call { callee := (Callee.value (Operand.func 21)), args := #[(Operand.tmp 108), (Operand.const (Value.int IntKind.i64 1))], argTypes := #[30, 3] } 21 #[pt l15, nt 1] (some 109) (by kernel_rfl) (by kernel_rfl) (by kernel_rfl) (locked_spec F285 l15 prX (prC (aye == approved) aye level now n) 1 _ ho286) ?_
          rintro _ w339 ⟨rfl, hk340⟩
          refine ⟨_, rfl, ?_⟩
          have hsz342 := Keep.size hk340
          replace hb20 := hb20.keep hk340 (fun f => f)
          replace hK0 := Keep.tr hK0 (Keep.ofNone hk340)
          replace ho283 := VotT.keep ho283 hk340 (fun _ _ f => f)
          replace ho286 := Led.keep ho286 hk340 (fun _ _ f => f)
          refine OI_pick [(3, nt now), (11, pt b13), (15, nt (10 + (cvPeriod level 8))), (17, nt n), (104, .bool false), (109, nt (lockedL (prC (aye == approved) aye level now n) 1))] (by kernel_rfl) ?_
          refine OI_eq [(3, nt now), (11, pt b13), (15, nt (10 + (cvPeriod level 8))), (17, nt n), (104, .bool false), (109, nt n)] (by rw [(pr_lk (by omega) (by omega)).1, hpm341]) ?_
          refine OI_static 15 [(3, nt now), (11, pt b13), (15, nt (10 + (cvPeriod level 8))), (112, .bool (!(decide (n = n))))] (by kernel_rfl) ?_
          refine OI_end rfl ?_
          refine X_then ?_
          refine V_eq [(3, nt now), (11, pt b13), (15, nt (10 + (cvPeriod level 8))), (112, .bool false)] (by rw [decide_eq_true (rfl : n = n)]; rfl) ?_
          refine V_false rfl ?_
          refine V_skip ?_
          refine X_then ?_
          refine V_seq ?_
          refine V_draws (acts [11]) none_ [[0, 1, 2, 3, 4, 5, 6, 7, 8, 9, 10, 11, 12]] (by kernel_rfl) (by repeat first | exact sure_body (by rintro _ _ ⟨h, _⟩; exact ⟨_, h⟩) | refine sure_then ?_ | refine sure_block ?_ | refine sure_join ?_) (by kernel_rfl) ?_
          intro w345 hk344 he346 L hL347
          have hsz348 := Keep.size hk344
          replace hb20 := hb20.keep hk344 (fun f => f)
          replace hK0 := Keep.tr hK0 (Keep.ofNone hk344)
          replace ho283 := VotT.keep ho283 hk344 (fun _ _ f => f)
          replace ho286 := Led.keep ho286 hk344 (fun _ _ f => f)
          have qhb20 := hb20
          have K349 : Keep none_ w345 w345 := Keep.refl _ _
          obtain rfl := List.mem_singleton.1 hL347
          refine GI_static [3, 4, 5, 6, 7, 8, 9, 10, 11, 12] [(3, nt now), (11, pt b13), (15, nt (10 + (cvPeriod level 8))), (115, .pointer (some ⟨b13, 1, none⟩))] (by kernel_rfl) ?_
          refine GI_cell 31 (.tmp 115) 1 (pt v14) (some 116) (by kernel_rfl) (by kernel_rfl) (by kernel_rfl) qhb20 (fun f => f) (m := 1) (by kernel_rfl) rfl ?_
          refine GI_static [7, 8, 9, 10, 11, 12] [(3, nt now), (11, pt b13), (15, nt (10 + (cvPeriod level 8))), (116, pt v14), (119, pt b13)] (by kernel_rfl) ?_
          refine GI_cell 30 (.tmp 119) 0 (pt l15) (some 120) (by kernel_rfl) (by kernel_rfl) (by kernel_rfl) qhb20 (fun f => f) (m := 1) (by kernel_rfl) rfl ?_
          refine GI_static [11, 12] [(11, pt b13), (116, pt v14), (120, pt l15), (123, nt (imax (10 + (cvPeriod level 8)) now))] (by kernel_rfl) ?_
          obtain ⟨s6b, s6c⟩ := pr6 (aye := aye) (won := (aye == approved)) (level := level) (n := n) (st := 3) (now := now) (by omega)
          refine GI_call0 { callee := (Callee.value (Operand.func 28)), args := #[(Operand.tmp 116), (Operand.tmp 120), (Operand.const (Value.int IntKind.i64 1)), (Operand.const (Value.int IntKind.i64 2)), (Operand.tmp 123)], argTypes := #[31, 30, 3, 3, 3] } 28 #[pt v14, pt l15, nt 1, nt 2, nt (imax (10 + (cvPeriod level 8)) now)] (some 124) (by kernel_rfl) (by kernel_rfl) (by kernel_rfl) (by kernel_rfl) (by kernel_rfl) (unlock_spec F282 F285 v14 l15 (prS4 aye level n 3 (prR (aye == approved) level now n)) prX (prC (aye == approved) aye level now n) 1 2 (imax (10 + (cvPeriod level 8)) now) _ ho283 ho286 hdis288 (by first | exact prC_len _ _ _ _ _ | decide | exact Nat.lt_trans (raise_lt (m := 1) (by decide) _ _ _) (by decide) | exact Nat.lt_trans (raise_lt (raise_lt (m := 1) (by decide) _ _ _) _ _ _) (by decide) | exact Nat.lt_trans (raise_lt (raise_lt (raise_lt (m := 1) (by decide) _ _ _) _ _ _) _ _ _) (by decide) | exact Nat.lt_trans (raise_lt (raise_lt (raise_lt (raise_lt (m := 1) (by decide) _ _ _) _ _ _) _ _ _) _ _ _) (by decide))) ?_
          rintro _ w352 ⟨rfl, ⟨F354, F357, ho355, ho358, hfr356, hfr359, hdis360⟩, hk353⟩
          refine ⟨_, rfl, ?_⟩
          have hsz361 := Keep.size hk353
          replace hb20 := hb20.keep hk353 (fun hs => by rcases hs with hs | hs; (have u0 := own291 _ hs; have u1 := lt290 _ hs; omega); (have u0 := own293 _ hs; have u1 := lt292 _ hs; omega))
          replace hK0 := Keep.fresh hK0 hk353 (by intro i hi hs; first | exact hs | (rcases hs with hs | hs; (have u0 := own291 i hs; have u1 := lt290 i hs; omega); (have u0 := own293 i hs; have u1 := lt292 i hs; omega)))
          have own363 : ∀ q, F354 q → w7.heap.size ≤ q ∧ q ≠ b13 := fun q hq => by rcases hfr356 q hq with h | h; (have h1 := own291 q h; have h2 := lt290 q h; omega); omega
          have lt362 := VotT.lt ho355
          have own365 : ∀ q, F357 q → w7.heap.size ≤ q ∧ q ≠ b13 := fun q hq => by rcases hfr359 q hq with h | h; (have h1 := own293 q h; have h2 := lt292 q h; omega); omega
          have lt364 := Led.lt ho358
          replace ho355 : VotT F354 w352 v14 (prS4 aye level n 3 RecS.zero) := by rw [s6b] at ho355; exact ho355
          replace ho358 : Led F357 w352 l15 prX (lockC (prC (aye == approved) aye level now n) 1 2 0) := by rw [s6c _] at ho358; exact ho358
          refine GI_pick [(11, pt b13), (124, nt (unlE 1 2))] (by kernel_rfl) ?_
          refine GI_eq [(11, pt b13), (124, nt 0)] (by rw [s5a]) ?_
          refine GI_static [] [(11, pt b13), (18, nt 0)] (by kernel_rfl) ?_
          refine GI_end ?_
          refine X_then ?_
          refine V_seq ?_
          refine V_region ?_
          refine OI_static 6 [(11, pt b13), (127, .bool true), (130, pt b13)] (by kernel_rfl) ?_
          refine OI_cell 30 (.tmp 130) 0 (pt l15) (some 131) (by kernel_rfl) (by kernel_rfl) hb20 (m := 1) (by kernel_rfl) rfl ?_
          refine OI_call { callee := (Callee.value (Operand.func 21)), args := #[(Operand.tmp 131), (Operand.const (Value.int IntKind.i64 1))], argTypes := #[30, 3] } 21 #[pt l15, nt 1] (some 132) (by kernel_rfl) (by kernel_rfl) (by kernel_rfl) (locked_spec F357 l15 prX (lockC (prC (aye == approved) aye level now n) 1 2 0) 1 _ ho358) ?_
          rintro _ w366 ⟨rfl, hk367⟩
          refine ⟨_, rfl, ?_⟩
          have hsz368 := Keep.size hk367
          replace hb20 := hb20.keep hk367 (fun f => f)
          replace hK0 := Keep.tr hK0 (Keep.ofNone hk367)
          replace ho355 := VotT.keep ho355 hk367 (fun _ _ f => f)
          replace ho358 := Led.keep ho358 hk367 (fun _ _ f => f)
          refine OI_pick [(11, pt b13), (127, .bool true), (132, nt (lockedL (lockC (prC (aye == approved) aye level now n) 1 2 0) 1))] (by kernel_rfl) ?_
          refine OI_eq [(11, pt b13), (127, .bool true), (132, nt 0)] (by rw [(pr_lk (by omega) (by omega)).2]) ?_
          refine OI_static 14 [(135, .bool true), (138, pt b13)] (by kernel_rfl) ?_
          refine OI_cell 30 (.tmp 138) 0 (pt l15) (some 139) (by kernel_rfl) (by kernel_rfl) hb20 (m := 1) (by kernel_rfl) rfl ?_
          refine OI_call { callee := (Callee.value (Operand.func 34)), args := #[(Operand.tmp 139), (Operand.const (Value.int IntKind.i64 1)), (Operand.const (Value.int IntKind.i64 0)), (Operand.const (Value.int IntKind.i64 1000))], argTypes := #[30, 3, 3, 3] } 34 #[pt l15, nt 1, nt 0, nt 1000] (some 140) (by kernel_rfl) (by kernel_rfl) (by kernel_rfl) (transfer_spec F357 l15 prX (lockC (prC (aye == approved) aye level now n) 1 2 0) 1 0 1000 _ ho358) ?_
          rintro _ w371 ⟨rfl, ⟨F373, ho374, hfr375⟩, hk372⟩
          refine ⟨_, rfl, ?_⟩
          have hsz376 := Keep.size hk372
          replace hK0 := Keep.fresh hK0 hk372 (by intro i hi hs; first | exact hs | (exfalso; have h1 := own365 i hs; have h2 := lt364 i hs; omega) | (have h1 := own365 i hs; have h2 := lt364 i hs; show _ ∨ _; omega))
          replace ho355 := VotT.keep ho355 hk372 (fun q hq hs => (fun q h1 h2 => hdis360 q h2 h1) q hs hq)
          have own378 : ∀ q, F373 q → w7.heap.size ≤ q := fun q hq => by rcases hfr375 q hq with h | h; (have h1 := own365 q h; have h2 := lt364 q h; omega); omega
          have lt377 := Led.lt ho374
          have dis379 : ∀ q, F373 q → ¬ F354 q := fun q h1 h2 => by rcases hfr375 q h1 with h | h; exact (fun q h1 h2 => hdis360 q h2 h1) q h h2; (have h4 := lt362 q h2; omega)
          refine OI_pick [(135, .bool true), (140, nt (transE prX (lockC (prC (aye == approved) aye level now n) 1 2 0) 1 0 1000))] (by kernel_rfl) ?_
          refine OI_eq [(135, .bool true), (140, nt 0)] (by rw [pr_tr (pr_lk (by omega) (by omega)).2]) ?_
          refine OI_static 19 [(143, .bool true)] (by kernel_rfl) ?_
          refine OI_call { callee := (Callee.value (Operand.func 22)), args := #[], argTypes := #[] } 22 #[] (some 144) (by kernel_rfl) (by kernel_rfl) (by kernel_rfl) (known_spec _) ?_
          rintro _ w380 ⟨rfl, hk381⟩
          refine ⟨_, rfl, ?_⟩
          have hsz382 := Keep.size hk381
          replace hK0 := Keep.tr hK0 (Keep.ofNone hk381)
          replace ho355 := VotT.keep ho355 hk381 (fun _ _ f => f)
          replace ho374 := Led.keep ho374 hk381 (fun _ _ f => f)
          refine OI_static 22 [(10, .bool true)] (by kernel_rfl) ?_
          refine OI_end rfl ?_
          refine X_then ?_
          refine V_ret ?_
          exact X_return (.bool true) rfl ⟨rfl, hK0⟩
         ·
          refine V_skip ?_
          refine X_then ?_
          refine V_seq ?_
          refine V_seq ?_
          refine V_region ?_
          refine OI_static 10 [(3, nt now), (11, pt b13), (15, nt (10 + (cvPeriod level 8))), (17, nt 0), (104, .bool false), (107, pt b13)] (by kernel_rfl) ?_
          refine OI_cell 30 (.tmp 107) 0 (pt l15) (some 108) (by kernel_rfl) (by kernel_rfl) hb20 (m := 1) (by kernel_rfl) rfl ?_
          have hpm385 : prM (aye == approved) level now n = 0 := if_neg (fun e => hc338 e.2)
          refine OI_call { callee := (Callee.value (Operand.func 21)), args := #[(Operand.tmp 108), (Operand.const (Value.int IntKind.i64 1))], argTypes := #[30, 3] } 21 #[pt l15, nt 1] (some 109) (by kernel_rfl) (by kernel_rfl) (by kernel_rfl) (locked_spec F285 l15 prX (prC (aye == approved) aye level now n) 1 _ ho286) ?_
          rintro _ w383 ⟨rfl, hk384⟩
          refine ⟨_, rfl, ?_⟩
          have hsz386 := Keep.size hk384
          replace hb20 := hb20.keep hk384 (fun f => f)
          replace hK0 := Keep.tr hK0 (Keep.ofNone hk384)
          replace ho283 := VotT.keep ho283 hk384 (fun _ _ f => f)
          replace ho286 := Led.keep ho286 hk384 (fun _ _ f => f)
          refine OI_pick [(3, nt now), (11, pt b13), (15, nt (10 + (cvPeriod level 8))), (17, nt 0), (104, .bool false), (109, nt (lockedL (prC (aye == approved) aye level now n) 1))] (by kernel_rfl) ?_
          refine OI_eq [(3, nt now), (11, pt b13), (15, nt (10 + (cvPeriod level 8))), (17, nt 0), (104, .bool false), (109, nt 0)] (by rw [(pr_lk (by omega) (by omega)).1, hpm385]) ?_
          refine OI_static 15 [(3, nt now), (11, pt b13), (15, nt (10 + (cvPeriod level 8))), (112, .bool false)] (by kernel_rfl) ?_
          refine OI_end rfl ?_
          refine X_then ?_
          refine V_false rfl ?_
          refine V_skip ?_
          refine X_then ?_
          refine V_seq ?_
          refine V_draws (acts [11]) none_ [[0, 1, 2, 3, 4, 5, 6, 7, 8, 9, 10, 11, 12]] (by kernel_rfl) (by repeat first | exact sure_body (by rintro _ _ ⟨h, _⟩; exact ⟨_, h⟩) | refine sure_then ?_ | refine sure_block ?_ | refine sure_join ?_) (by kernel_rfl) ?_
          intro w388 hk387 he389 L hL390
          have hsz391 := Keep.size hk387
          replace hb20 := hb20.keep hk387 (fun f => f)
          replace hK0 := Keep.tr hK0 (Keep.ofNone hk387)
          replace ho283 := VotT.keep ho283 hk387 (fun _ _ f => f)
          replace ho286 := Led.keep ho286 hk387 (fun _ _ f => f)
          have qhb20 := hb20
          have K392 : Keep none_ w388 w388 := Keep.refl _ _
          obtain rfl := List.mem_singleton.1 hL390
          refine GI_static [3, 4, 5, 6, 7, 8, 9, 10, 11, 12] [(3, nt now), (11, pt b13), (15, nt (10 + (cvPeriod level 8))), (115, .pointer (some ⟨b13, 1, none⟩))] (by kernel_rfl) ?_
          refine GI_cell 31 (.tmp 115) 1 (pt v14) (some 116) (by kernel_rfl) (by kernel_rfl) (by kernel_rfl) qhb20 (fun f => f) (m := 1) (by kernel_rfl) rfl ?_
          refine GI_static [7, 8, 9, 10, 11, 12] [(3, nt now), (11, pt b13), (15, nt (10 + (cvPeriod level 8))), (116, pt v14), (119, pt b13)] (by kernel_rfl) ?_
          refine GI_cell 30 (.tmp 119) 0 (pt l15) (some 120) (by kernel_rfl) (by kernel_rfl) (by kernel_rfl) qhb20 (fun f => f) (m := 1) (by kernel_rfl) rfl ?_
          refine GI_static [11, 12] [(11, pt b13), (116, pt v14), (120, pt l15), (123, nt (imax (10 + (cvPeriod level 8)) now))] (by kernel_rfl) ?_
          obtain ⟨s6b, s6c⟩ := pr6 (aye := aye) (won := (aye == approved)) (level := level) (n := n) (st := 3) (now := now) (by omega)
          refine GI_call0 { callee := (Callee.value (Operand.func 28)), args := #[(Operand.tmp 116), (Operand.tmp 120), (Operand.const (Value.int IntKind.i64 1)), (Operand.const (Value.int IntKind.i64 2)), (Operand.tmp 123)], argTypes := #[31, 30, 3, 3, 3] } 28 #[pt v14, pt l15, nt 1, nt 2, nt (imax (10 + (cvPeriod level 8)) now)] (some 124) (by kernel_rfl) (by kernel_rfl) (by kernel_rfl) (by kernel_rfl) (by kernel_rfl) (unlock_spec F282 F285 v14 l15 (prS4 aye level n 3 (prR (aye == approved) level now n)) prX (prC (aye == approved) aye level now n) 1 2 (imax (10 + (cvPeriod level 8)) now) _ ho283 ho286 hdis288 (by first | exact prC_len _ _ _ _ _ | decide | exact Nat.lt_trans (raise_lt (m := 1) (by decide) _ _ _) (by decide) | exact Nat.lt_trans (raise_lt (raise_lt (m := 1) (by decide) _ _ _) _ _ _) (by decide) | exact Nat.lt_trans (raise_lt (raise_lt (raise_lt (m := 1) (by decide) _ _ _) _ _ _) _ _ _) (by decide) | exact Nat.lt_trans (raise_lt (raise_lt (raise_lt (raise_lt (m := 1) (by decide) _ _ _) _ _ _) _ _ _) _ _ _) (by decide))) ?_
          rintro _ w395 ⟨rfl, ⟨F397, F400, ho398, ho401, hfr399, hfr402, hdis403⟩, hk396⟩
          refine ⟨_, rfl, ?_⟩
          have hsz404 := Keep.size hk396
          replace hb20 := hb20.keep hk396 (fun hs => by rcases hs with hs | hs; (have u0 := own291 _ hs; have u1 := lt290 _ hs; omega); (have u0 := own293 _ hs; have u1 := lt292 _ hs; omega))
          replace hK0 := Keep.fresh hK0 hk396 (by intro i hi hs; first | exact hs | (rcases hs with hs | hs; (have u0 := own291 i hs; have u1 := lt290 i hs; omega); (have u0 := own293 i hs; have u1 := lt292 i hs; omega)))
          have own406 : ∀ q, F397 q → w7.heap.size ≤ q ∧ q ≠ b13 := fun q hq => by rcases hfr399 q hq with h | h; (have h1 := own291 q h; have h2 := lt290 q h; omega); omega
          have lt405 := VotT.lt ho398
          have own408 : ∀ q, F400 q → w7.heap.size ≤ q ∧ q ≠ b13 := fun q hq => by rcases hfr402 q hq with h | h; (have h1 := own293 q h; have h2 := lt292 q h; omega); omega
          have lt407 := Led.lt ho401
          replace ho398 : VotT F397 w395 v14 (prS4 aye level n 3 RecS.zero) := by rw [s6b] at ho398; exact ho398
          replace ho401 : Led F400 w395 l15 prX (lockC (prC (aye == approved) aye level now n) 1 2 0) := by rw [s6c _] at ho401; exact ho401
          refine GI_pick [(11, pt b13), (124, nt (unlE 1 2))] (by kernel_rfl) ?_
          refine GI_eq [(11, pt b13), (124, nt 0)] (by rw [s5a]) ?_
          refine GI_static [] [(11, pt b13), (18, nt 0)] (by kernel_rfl) ?_
          refine GI_end ?_
          refine X_then ?_
          refine V_seq ?_
          refine V_region ?_
          refine OI_static 6 [(11, pt b13), (127, .bool true), (130, pt b13)] (by kernel_rfl) ?_
          refine OI_cell 30 (.tmp 130) 0 (pt l15) (some 131) (by kernel_rfl) (by kernel_rfl) hb20 (m := 1) (by kernel_rfl) rfl ?_
          refine OI_call { callee := (Callee.value (Operand.func 21)), args := #[(Operand.tmp 131), (Operand.const (Value.int IntKind.i64 1))], argTypes := #[30, 3] } 21 #[pt l15, nt 1] (some 132) (by kernel_rfl) (by kernel_rfl) (by kernel_rfl) (locked_spec F400 l15 prX (lockC (prC (aye == approved) aye level now n) 1 2 0) 1 _ ho401) ?_
          rintro _ w409 ⟨rfl, hk410⟩
          refine ⟨_, rfl, ?_⟩
          have hsz411 := Keep.size hk410
          replace hb20 := hb20.keep hk410 (fun f => f)
          replace hK0 := Keep.tr hK0 (Keep.ofNone hk410)
          replace ho398 := VotT.keep ho398 hk410 (fun _ _ f => f)
          replace ho401 := Led.keep ho401 hk410 (fun _ _ f => f)
          refine OI_pick [(11, pt b13), (127, .bool true), (132, nt (lockedL (lockC (prC (aye == approved) aye level now n) 1 2 0) 1))] (by kernel_rfl) ?_
          refine OI_eq [(11, pt b13), (127, .bool true), (132, nt 0)] (by rw [(pr_lk (by omega) (by omega)).2]) ?_
          refine OI_static 14 [(135, .bool true), (138, pt b13)] (by kernel_rfl) ?_
          refine OI_cell 30 (.tmp 138) 0 (pt l15) (some 139) (by kernel_rfl) (by kernel_rfl) hb20 (m := 1) (by kernel_rfl) rfl ?_
          refine OI_call { callee := (Callee.value (Operand.func 34)), args := #[(Operand.tmp 139), (Operand.const (Value.int IntKind.i64 1)), (Operand.const (Value.int IntKind.i64 0)), (Operand.const (Value.int IntKind.i64 1000))], argTypes := #[30, 3, 3, 3] } 34 #[pt l15, nt 1, nt 0, nt 1000] (some 140) (by kernel_rfl) (by kernel_rfl) (by kernel_rfl) (transfer_spec F400 l15 prX (lockC (prC (aye == approved) aye level now n) 1 2 0) 1 0 1000 _ ho401) ?_
          rintro _ w414 ⟨rfl, ⟨F416, ho417, hfr418⟩, hk415⟩
          refine ⟨_, rfl, ?_⟩
          have hsz419 := Keep.size hk415
          replace hK0 := Keep.fresh hK0 hk415 (by intro i hi hs; first | exact hs | (exfalso; have h1 := own408 i hs; have h2 := lt407 i hs; omega) | (have h1 := own408 i hs; have h2 := lt407 i hs; show _ ∨ _; omega))
          replace ho398 := VotT.keep ho398 hk415 (fun q hq hs => (fun q h1 h2 => hdis403 q h2 h1) q hs hq)
          have own421 : ∀ q, F416 q → w7.heap.size ≤ q := fun q hq => by rcases hfr418 q hq with h | h; (have h1 := own408 q h; have h2 := lt407 q h; omega); omega
          have lt420 := Led.lt ho417
          have dis422 : ∀ q, F416 q → ¬ F397 q := fun q h1 h2 => by rcases hfr418 q h1 with h | h; exact (fun q h1 h2 => hdis403 q h2 h1) q h h2; (have h4 := lt405 q h2; omega)
          refine OI_pick [(135, .bool true), (140, nt (transE prX (lockC (prC (aye == approved) aye level now n) 1 2 0) 1 0 1000))] (by kernel_rfl) ?_
          refine OI_eq [(135, .bool true), (140, nt 0)] (by rw [pr_tr (pr_lk (by omega) (by omega)).2]) ?_
          refine OI_static 19 [(143, .bool true)] (by kernel_rfl) ?_
          refine OI_call { callee := (Callee.value (Operand.func 22)), args := #[], argTypes := #[] } 22 #[] (some 144) (by kernel_rfl) (by kernel_rfl) (by kernel_rfl) (known_spec _) ?_
          rintro _ w423 ⟨rfl, hk424⟩
          refine ⟨_, rfl, ?_⟩
          have hsz425 := Keep.size hk424
          replace hK0 := Keep.tr hK0 (Keep.ofNone hk424)
          replace ho398 := VotT.keep ho398 hk424 (fun _ _ f => f)
          replace ho417 := Led.keep ho417 hk424 (fun _ _ f => f)
          refine OI_static 22 [(10, .bool true)] (by kernel_rfl) ?_
          refine OI_end rfl ?_
          refine X_then ?_
          refine V_ret ?_
          exact X_return (.bool true) rfl ⟨rfl, hK0⟩
end Go.Al

