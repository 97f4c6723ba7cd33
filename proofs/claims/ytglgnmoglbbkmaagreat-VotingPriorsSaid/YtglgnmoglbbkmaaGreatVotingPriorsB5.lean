/-
  Put together out of 14 texts: Walks of package voting: Vote. Package voting: what Unvote, Delegate, Undelegate, Unlock do. Walks of package voting: Delegate. Walks of package voting: New; the voting with its tracks. Walks of the laws of voting: the document's answer to chapter 5. Walks of the laws of voting: all votes. Walks of the laws of voting: a beginning. The laws of voting: locks; what succeeds. Walks of the laws of voting: what is lent counts. The laws of voting: a vote that is cast anew. The laws of voting: more of what is delegated. The laws of voting: a vote that is taken away. The laws of voting: what stays locked. Walks of package voting: Unvote.
-/
import Derived.Test.YtglgnmoglbbkmaaGreatVotingPriorsB4
namespace Go.Al
open Go Go.RowKit Go.Proofs
/-- Each poll has a track that is one. -/
def TrkOk (s : VS) : Prop := ∀ (i : Nat) q, s.ps[i]? = some (some q) → 0 ≤ q.track ∧ q.track < 4
def voteE (xs : List Acc) (s : VS) (who ref : Int) (x : Vt) : Int := if ¬ (0 ≤ who ∧ who ≤ 9) ∨ ¬ okV x then 1 else match pollAt s ref with
  | none => 4
  | some q => if ¬ q.state = 0 then 9 else if (s.rc who q.track).d.isSome = true then 5 else if capI x > (acct xs who).free then 6 else if (GV.getC who ref s.cs).isSome = false ∧ (((vrow s who q.track).length : Nat) : Int) ≥ 6 then 3 else 0
def voteT (s : VS) (who ref : Int) (x : Vt) (q : PollS) : Tly := addT (if (GV.getC who ref s.cs).isSome = true then subT q.t (gainT ((GV.getC who ref s.cs).getD Vt.zero) (s.rc who q.track).got) else q.t) (gainT x (s.rc who q.track).got)
def voteS (xs : List Acc) (s : VS) (who ref : Int) (x : Vt) : VS := if voteE xs s who ref x = 0 then (match pollAt s ref with | none => s | some q => { s.setP ref.toNat { q with t := voteT s who ref x q } with cs := GV.setC who ref x s.cs }) else s
def voteC (xs : List Acc) (cs : List Ci) (s : VS) (who ref : Int) (x : Vt) : List Ci := if voteE xs s who ref x = 0 then (match pollAt s ref with | none => cs | some q => raiseC cs who q.track (capI x)) else cs

set_option maxRecDepth 10000 in
set_option maxHeartbeats 1000000 in
theorem vote_at (F G : Nat → Prop) (v l : Nat) (P : VP) (s : VS) (xs : List Acc) (cs : List Ci) (who ref : Int) (x : Vt) (w : World) (h : Vot F w v P s) (hl : Led G w l xs cs) (hdis : ∀ q, F q → ¬ G q) (htr : TrkOk s) (hmax : cs.length < 100000) : Calls Tryz.prog 18 #[.pointer (some ⟨v, 0, none⟩), .pointer (some ⟨l, 0, none⟩), .int .i64 who, .int .i64 ref, .agg x.cells.toArray] w fun e w' => e = .returned (.int .i64 (voteE xs s who ref x)) ∧ (∃ F' G', VotE F' w' v (voteS xs s who ref x) ∧ Led G' w' l xs (voteC xs cs s who ref x) ∧ (∀ q, F' q → F q ∨ w.heap.size ≤ q) ∧ (∀ q, G' q → G q ∨ w.heap.size ≤ q) ∧ (∀ q, F' q → ¬ G' q)) ∧ Keep (fun q => F q ∨ G q) w w' := by
 have hFlt := Vot.lt h
 have hvlt := hFlt _ (Vot.at_ h)
 have hFo : ∀ q, F q → 0 ≤ q := fun q _ => Nat.zero_le q
 have hFr : ∀ q, F q → F q ∨ w.heap.size ≤ q := fun _ h => .inl h
 have hGlt := Led.lt hl
 have hllt := hGlt _ (Led.at_ hl)
 have hGo : ∀ q, G q → 0 ≤ q := fun q _ => Nat.zero_le q
 have hGr : ∀ q, G q → G q ∨ w.heap.size ≤ q := fun _ h => .inl h
 obtain ⟨hvl0, hvb⟩ := Vot.vblk h
 have hFv := Vot.at_ h
 have hK0 : Keep (fun q => F q ∨ G q) w w := Keep.refl _ _
 have hzhK0 := Keep.size hK0
 refine enterV Tryz.func18 rfl [pt v, pt l, nt who, nt ref, .agg (Vt.cells x).toArray] 133 rfl rfl rfl ?_
 refine V_pick [(0, pt v), (1, pt l), (2, nt who), (3, nt ref), (4, .agg (Vt.cells x).toArray)] rfl ?_
 refine V_seq ?_
 refine V_region ?_
 refine OI_box 23 (.tmp 4) (.agg (Vt.cells x).toArray) (Vt.cells x) (some 9) (by kernel_rfl) (by kernel_rfl) rfl ?_
 intro b1 w1 e1 hb1 k1 z1
 have hsz2 := Keep.size k1
 replace hvb := hvb.keep k1 (fun f => f)
 replace h := Vot.keep h k1 (fun _ _ f => f)
 replace hl := Led.keep hl k1 (fun _ _ f => f)
 replace hK0 := Keep.tr hK0 (Keep.ofNone k1)
 have hb1lt := hb1.lt
 refine OI_static 2 [(0, pt v), (1, pt l), (2, nt who), (3, nt ref), (9, pt b1)] (by kernel_rfl) ?_
 refine OI_end rfl ?_
 refine X_then ?_
 refine V_seq ?_
 refine V_seq ?_
 refine V_region ?_
 refine OI_static 8 [(0, pt v), (1, pt l), (2, nt who), (3, nt ref), (9, pt b1), (21, .bool false), (22, nt who)] (by kernel_rfl) ?_
 refine OI_call { callee := (Callee.value (Operand.func 47)), args := #[(Operand.tmp 22)], argTypes := #[3] } 47 #[nt who] (some 23) (by kernel_rfl) (by kernel_rfl) (by kernel_rfl) (isAcc_spec who _) ?_
 rintro _ w1 ⟨rfl, rfl⟩
 refine ⟨_, rfl, ?_⟩
 refine OI_static 12 [(0, pt v), (1, pt l), (2, nt who), (3, nt ref), (9, pt b1), (26, .bool (!(decide (0 ≤ who ∧ who ≤ 9))))] (by kernel_rfl) ?_
 by_cases hg8 : 0 ≤ who ∧ who ≤ 9
 ·
  refine OI_eq [(0, pt v), (1, pt l), (2, nt who), (3, nt ref), (9, pt b1), (26, .bool false)] (by first | simp [hg8] | rfl) ?_
  refine OI_agg 23 (.tmp 9) 0 (Vt.cells x) (some 27) (by kernel_rfl) (by kernel_rfl) hb1 (m := 6) (by kernel_rfl) (take_all (Vt.len _)) (Vt.len _) ?_
  refine OI_call { callee := (Callee.value (Operand.func 53)), args := #[(Operand.tmp 27)], argTypes := #[23] } 53 #[.agg (Vt.cells x).toArray] (some 28) (by kernel_rfl) (by kernel_rfl) (by kernel_rfl) (cvIs_spec x _) ?_
  rintro _ w11 ⟨rfl, hk12⟩
  refine ⟨_, rfl, ?_⟩
  have hsz13 := Keep.size hk12
  replace hvb := hvb.keep hk12 (fun f => f)
  replace hb1 := hb1.keep hk12 (fun f => f)
  replace h := Vot.keep h hk12 (fun _ _ f => f)
  replace hl := Led.keep hl hk12 (fun _ _ f => f)
  replace hK0 := Keep.tr hK0 (Keep.ofNone hk12)
  refine OI_static 16 [(0, pt v), (1, pt l), (2, nt who), (3, nt ref), (9, pt b1), (30, .bool (!(decide (okV x))))] (by kernel_rfl) ?_
  refine OI_end rfl ?_
  refine X_then ?_
  refine V_not (okV x) (by kernel_rfl) (fun hc14 => ?_) (fun hc14 => ?_)
  ·
   refine V_seq ?_
   refine V_region ?_
   refine OI_static 1 [(10, nt 1)] (by kernel_rfl) ?_
   refine OI_end rfl ?_
   refine X_then ?_
   refine V_ret ?_
   refine X_ret_then ?_
   have hE15 : voteE xs s who ref x = 1 := by unfold voteE; rw [if_pos (.inr (hc14))]
   exact X_return (nt 1) rfl ⟨by rw [hE15], ⟨F, G, ⟨_, by rw [show voteS xs s who ref x = s from by unfold voteS; rw [hE15, if_neg (by decide)]]; exact h⟩, by rw [show voteC xs cs s who ref x = cs from by unfold voteC; rw [hE15, if_neg (by decide)]]; exact hl, hFr, hGr, hdis⟩, hK0⟩
  ·
   refine V_skip ?_
   refine X_then ?_
   refine V_seq ?_
   refine V_region ?_
   refine OI_static 2 [(0, pt v), (1, pt l), (2, nt who), (3, nt ref), (9, pt b1), (31, pt v), (32, nt ref)] (by kernel_rfl) ?_
   rcases Vot.pollcase h ref with ⟨hpn16, hpc16⟩ | ⟨i16, b16, q16, hpr16, hpi16, hpp16, hps16, hpa16⟩
   ·
    refine OI_call { callee := (Callee.value (Operand.func 46)), args := #[(Operand.tmp 31), (Operand.tmp 32)], argTypes := #[31, 3] } 46 #[pt v, nt ref] (some 33) (by kernel_rfl) (by kernel_rfl) (by kernel_rfl) (poll_none F v P s ref _ h hpc16) ?_
    rintro _ w19 ⟨rfl, hk20⟩
    refine ⟨_, rfl, ?_⟩
    have hsz21 := Keep.size hk20
    replace hvb := hvb.keep hk20 (fun f => f)
    replace hb1 := hb1.keep hk20 (fun f => f)
    replace h := Vot.keep h hk20 (fun _ _ f => f)
    replace hl := Led.keep hl hk20 (fun _ _ f => f)
    replace hK0 := Keep.tr hK0 (Keep.ofNone hk20)
    refine OI_static 4 [(0, pt v), (1, pt l), (2, nt who), (3, nt ref), (9, pt b1), (11, .pointer none)] (by kernel_rfl) ?_
    refine OI_end rfl ?_
    refine X_then ?_
    refine V_seq ?_
    refine V_block ?_
    refine V_seq ?_
    refine V_region ?_
    refine OI_static 3 [(0, pt v), (1, pt l), (2, nt who), (3, nt ref), (9, pt b1), (11, .pointer none), (34, .bool true)] (by kernel_rfl) ?_
    refine OI_end rfl ?_
    refine X_then ?_
    refine V_true rfl ?_
    refine V_seq ?_
    refine V_region ?_
    refine OI_static 1 [(10, nt 4)] (by kernel_rfl) ?_
    refine OI_end rfl ?_
    refine X_then ?_
    refine V_ret ?_
    refine X_ret_block ?_
    refine X_ret_then ?_
    have hE22 : voteE xs s who ref x = 4 := by unfold voteE; rw [if_neg (by rintro (h9 | h9); exact h9 hg8; exact h9 hc14)]; rw [hpn16]
    exact X_return (nt 4) rfl ⟨by rw [hE22], ⟨F, G, ⟨_, by rw [show voteS xs s who ref x = s from by unfold voteS; rw [hE22, if_neg (by decide)]]; exact h⟩, by rw [show voteC xs cs s who ref x = cs from by unfold voteC; rw [hE22, if_neg (by decide)]]; exact hl, hFr, hGr, hdis⟩, hK0⟩
   ·
    refine OI_call { callee := (Callee.value (Operand.func 46)), args := #[(Operand.tmp 31), (Operand.tmp 32)], argTypes := #[31, 3] } 46 #[pt v, nt ref] (some 33) (by kernel_rfl) (by kernel_rfl) (by kernel_rfl) ((by rw [hpr16]; exact poll_some F v P s i16 b16 _ h hpi16 hpp16)) ?_
    rintro _ w25 ⟨rfl, hk26⟩
    refine ⟨_, rfl, ?_⟩
    have hsz27 := Keep.size hk26
    replace hvb := hvb.keep hk26 (fun f => f)
    replace hb1 := hb1.keep hk26 (fun f => f)
    replace h := Vot.keep h hk26 (fun _ _ f => f)
    replace hl := Led.keep hl hk26 (fun _ _ f => f)
    replace hK0 := Keep.tr hK0 (Keep.ofNone hk26)
    obtain ⟨hm28, hF29⟩ := Vot.pollB h hpp16 hps16
    have hb16lt := hm28.lt
    have hlob16 := hFlt _ hF29
    have hob16 := hFo _ hF29
    have hneb16v : b16 ≠ v := Blk.ne hm28 hvb (by decide)
    refine OI_static 4 [(0, pt v), (1, pt l), (2, nt who), (3, nt ref), (9, pt b1), (11, pt b16)] (by kernel_rfl) ?_
    refine OI_end rfl ?_
    refine X_then ?_
    refine V_seq ?_
    refine V_block ?_
    refine V_seq ?_
    refine V_region ?_
    refine OI_static 3 [(0, pt v), (1, pt l), (2, nt who), (3, nt ref), (9, pt b1), (11, pt b16), (34, .bool false)] (by kernel_rfl) ?_
    refine OI_end rfl ?_
    refine X_then ?_
    refine V_false rfl ?_
    refine V_seq ?_
    refine V_region ?_
    refine OI_static 3 [(0, pt v), (1, pt l), (2, nt who), (3, nt ref), (9, pt b1), (11, pt b16), (40, .pointer (some ⟨b16, 4, none⟩))] (by kernel_rfl) ?_
    refine OI_cell 3 (.tmp 40) 4 (nt ((q16).state)) (some 41) (by kernel_rfl) (by kernel_rfl) hm28 (m := 1) (by kernel_rfl) rfl ?_
    refine OI_static 6 [(0, pt v), (1, pt l), (2, nt who), (3, nt ref), (9, pt b1), (11, pt b16), (37, .bool (!(decide ((q16).state = 0))))] (by kernel_rfl) ?_
    refine OI_end rfl ?_
    refine X_then ?_
    refine V_not ((q16).state = 0) (by kernel_rfl) (fun hc30 => ?_) (fun hc30 => ?_)
    ·
     refine V_seq ?_
     refine V_region ?_
     refine OI_static 1 [(10, nt 9)] (by kernel_rfl) ?_
     refine OI_end rfl ?_
     refine X_then ?_
     refine V_ret ?_
     refine X_ret_block ?_
     refine X_ret_then ?_
     have hE31 : voteE xs s who ref x = 9 := by unfold voteE; rw [if_neg (by rintro (h9 | h9); exact h9 hg8; exact h9 hc14)]; rw [hpa16]; dsimp only; rw [if_pos hc30]
     exact X_return (nt 9) rfl ⟨by rw [hE31], ⟨F, G, ⟨_, by rw [show voteS xs s who ref x = s from by unfold voteS; rw [hE31, if_neg (by decide)]]; exact h⟩, by rw [show voteC xs cs s who ref x = cs from by unfold voteC; rw [hE31, if_neg (by decide)]]; exact hl, hFr, hGr, hdis⟩, hK0⟩
    ·
     refine V_skip ?_
     refine X_block ?_
     refine X_then ?_
     refine V_seq ?_
     refine V_region ?_
     refine OI_static 5 [(0, pt v), (1, pt l), (2, nt who), (3, nt ref), (9, pt b1), (11, pt b16), (43, pt v), (44, nt who), (47, pt b16)] (by kernel_rfl) ?_
     refine OI_cell 3 (.tmp 47) 0 (nt ((q16).track)) (some 48) (by kernel_rfl) (by kernel_rfl) hm28 (m := 1) (by kernel_rfl) rfl ?_
     rcases hd32 : (s.rc who ((q16).track)).d with _ | d33
     ·
      refine OI_call { callee := (Callee.value (Operand.func 48)), args := #[(Operand.tmp 43), (Operand.tmp 44), (Operand.tmp 48)], argTypes := #[31, 3, 3] } 48 #[pt v, nt who, nt ((q16).track)] (some 49) (by kernel_rfl) (by kernel_rfl) (by kernel_rfl) (record_spec F v P s who ((q16).track) _ h (by omega) (htr _ _ (by assumption))) ?_
      rintro _ w48 ⟨q38, P39, rfl, hgc43, hpp44, hgv45, hmn46, hdl47, ⟨F40, ho41, hfr42⟩, hk49⟩
      refine ⟨_, rfl, ?_⟩
      have hsz50 := Keep.size hk49
      replace hb1 := hb1.keep hk49 (fun hs => by have h1 := hFo _ hs; have h2 := hFlt _ hs; omega)
      replace hl := Led.keep hl hk49 (fun q hq hs => hdis q hs hq)
      replace hK0 := Keep.fresh hK0 hk49 (fun i hi hs => by rcases hFr i hs with h | h; exact .inl h; (exfalso; omega))
      have own52 : ∀ q, F40 q → 0 ≤ q ∧ q ≠ b1 := fun q hq => by rcases hfr42 q hq with h | h; (have h1 := hFo q h; have h2 := hFlt q h; omega); omega
      have lt51 := Vot.lt ho41
      have rel53 : ∀ q, F40 q → F q ∨ w.heap.size ≤ q := fun q hq => by rcases hfr42 q hq with h | h; exact hFr q h; exact .inr (by omega)
      have dis54 : ∀ q, F40 q → ¬ G q := fun q h1 h2 => by rcases hfr42 q h1 with h | h; exact hdis q h h2; (have h4 := hGlt q h2; omega)
      have hqb16w48 := (show P39.pp[i16]? = some (some ⟨b16, 0, none⟩) from by rw [hpp44]; exact hpp16)
      have hgq38lt := lt51 _ (Vot.at_ ho41)
      obtain ⟨hvlhm55, hm55⟩ := Vot.vblk ho41
      have hF56 := Vot.at_ ho41
      have hvlt := hm55.lt
      have hlov := lt51 _ hF56
      have hov := own52 _ hF56
      obtain ⟨hm57, hF58⟩ := Vot.pollB ho41 hqb16w48 hps16
      have hb16lt := hm57.lt
      have hlob16 := lt51 _ hF58
      have hob16 := own52 _ hF58
      obtain ⟨hF60, hm59⟩ := Vot.recN ho41 hgc43 hd32
      have hq38lt := hm59.lt
      have hloq38 := lt51 _ hF60
      have hoq38 := own52 _ hF60
      have hneb16v : b16 ≠ v := Blk.ne hm57 hm55 (by decide)
      have hneq38v : q38 ≠ v := Blk.ne hm59 hm55 (by decide)
      have hneq38b16 : q38 ≠ b16 := Blk.ne hm59 hm57 (by decide)
      refine OI_static 8 [(0, pt v), (1, pt l), (2, nt who), (3, nt ref), (9, pt b1), (11, pt b16), (12, pt q38)] (by kernel_rfl) ?_
      refine OI_end rfl ?_
      refine X_then ?_
      refine V_seq ?_
      refine V_region ?_
      refine OI_static 3 [(0, pt v), (1, pt l), (2, nt who), (3, nt ref), (9, pt b1), (11, pt b16), (12, pt q38), (53, .pointer (some ⟨v, 12, none⟩))] (by kernel_rfl) ?_
      refine OI_cell 91 (.tmp 53) 12 (pt P39.gv) (some 54) (by kernel_rfl) (by kernel_rfl) hm55 (m := 1) (by kernel_rfl) (by rw [List.getElem?_append_right (by rw [List.length_map]; omega), List.length_map, hvlhm55]; rfl) ?_
      refine OI_static 6 [(0, pt v), (1, pt l), (2, nt who), (3, nt ref), (9, pt b1), (11, pt b16), (12, pt q38), (54, pt P39.gv), (55, nt who), (56, nt ref)] (by kernel_rfl) ?_
      refine OI_call { callee := (Callee.value (Operand.func 54)), args := #[(Operand.tmp 54), (Operand.tmp 55), (Operand.tmp 56)], argTypes := #[91, 3, 3] } 54 #[pt P39.gv, nt who, nt ref] (some 57) (by kernel_rfl) (by kernel_rfl) (by kernel_rfl) (vget_spec F40 v P39 s who ref _ ho41) ?_
      rintro _ w63 ⟨rfl, hk64⟩
      refine ⟨_, rfl, ?_⟩
      have hsz65 := Keep.size hk64
      replace hb1 := hb1.keep hk64 (fun f => f)
      replace hm55 := hm55.keep hk64 (fun f => f)
      replace hm57 := hm57.keep hk64 (fun f => f)
      replace hm59 := hm59.keep hk64 (fun f => f)
      replace hl := Led.keep hl hk64 (fun _ _ f => f)
      replace hK0 := Keep.tr hK0 (Keep.ofNone hk64)
      replace ho41 := Vot.keep ho41 hk64 (fun _ _ f => f)
      refine OI_static 10 [(0, pt v), (1, pt l), (2, nt who), (3, nt ref), (9, pt b1), (11, pt b16), (12, pt q38), (58, .agg (Vt.cells ((GV.getC who ref s.cs).getD Vt.zero)).toArray), (59, .bool ((GV.getC who ref s.cs).isSome))] (by kernel_rfl) ?_
      refine OI_alloc 23 (.agg #[nt 0, .bool false, nt 0, nt 0, nt 0, nt 0]) [nt 0, .bool false, nt 0, nt 0, nt 0, nt 0] (some 13) (by kernel_rfl) (by kernel_rfl) (by kernel_rfl) ?_
      intro b66 w66 e66 hb66 k66 z66
      have hsz67 := Keep.size k66
      replace hb1 := hb1.keep k66 (fun f => f)
      replace hm55 := hm55.keep k66 (fun f => f)
      replace hm57 := hm57.keep k66 (fun f => f)
      replace hm59 := hm59.keep k66 (fun f => f)
      replace hl := Led.keep hl k66 (fun _ _ f => f)
      replace hK0 := Keep.tr hK0 (Keep.ofNone k66)
      replace ho41 := Vot.keep ho41 k66 (fun _ _ f => f)
      have hb66lt := hb66.lt
      refine OI_set (m := 6) (kd := true) 23 (.tmp 13) (.tmp 58) 0 (.agg (Vt.cells ((GV.getC who ref s.cs).getD Vt.zero)).toArray) (Vt.cells ((GV.getC who ref s.cs).getD Vt.zero)) none (by kernel_rfl) (by kernel_rfl) (by kernel_rfl) hb66 (by kernel_rfl) rfl (Vt.len _) (Nat.le_of_ble_eq_true (by kernel_rfl)) (Vt.one _) ?_
      intro w68 hb66_71 hk69 hz70
      replace hb66_71 : Blk w68 b66 (Vt.cells ((GV.getC who ref s.cs).getD Vt.zero)) 23 := (by rwa [over_whole (by rw [Vt.len]; rfl)] at hb66_71)
      have hsz72 := Keep.size hk69
      replace hb1 := hb1.keep hk69 (by show ¬ (_ = _); omega)
      replace hm55 := hm55.keep hk69 (by show ¬ (_ = _); omega)
      replace hm57 := hm57.keep hk69 (by show ¬ (_ = _); omega)
      replace hm59 := hm59.keep hk69 (by show ¬ (_ = _); omega)
      replace hl := Led.keep hl hk69 (fun q hq hs => by have hs : q = b66 := hs; have g0 := hGo q hq; have g1 := hGlt q hq; omega)
      replace hK0 := Keep.fresh hK0 hk69 (by intro i hi hs; first | exact hs | exact Or.inl hs | exact Or.inr hs | (exfalso; have hs2 : i = b66 := hs; omega))
      replace ho41 := Vot.keep ho41 hk69 (fun q hq hs => by have hs : q = b66 := hs; have g0 := own52 q hq; have g1 := lt51 q hq; omega)
      refine OI_static 13 [(0, pt v), (1, pt l), (2, nt who), (3, nt ref), (9, pt b1), (11, pt b16), (12, pt q38), (13, pt b66), (14, .bool ((GV.getC who ref s.cs).isSome))] (by kernel_rfl) ?_
      refine OI_end rfl ?_
      refine X_then ?_
      refine V_seq ?_
      refine V_block ?_
      refine V_seq ?_
      refine V_region ?_
      refine OI_static 3 [(0, pt v), (1, pt l), (2, nt who), (3, nt ref), (9, pt b1), (11, pt b16), (12, pt q38), (13, pt b66), (14, .bool ((GV.getC who ref s.cs).isSome)), (63, pt q38)] (by kernel_rfl) ?_
      refine OI_cell 97 (.tmp 63) 0 (.pointer none) (some 64) (by kernel_rfl) (by kernel_rfl) hm59 (m := 1) (by kernel_rfl) rfl ?_
      refine OI_static 6 [(0, pt v), (1, pt l), (2, nt who), (3, nt ref), (9, pt b1), (11, pt b16), (12, pt q38), (13, pt b66), (14, .bool ((GV.getC who ref s.cs).isSome)), (60, .bool false)] (by kernel_rfl) ?_
      refine OI_end rfl ?_
      refine X_then ?_
      refine V_false rfl ?_
      refine V_seq ?_
      refine V_region ?_
      refine OI_agg 23 (.tmp 9) 0 (Vt.cells x) (some 67) (by kernel_rfl) (by kernel_rfl) hb1 (m := 6) (by kernel_rfl) (take_all (Vt.len _)) (Vt.len _) ?_
      refine OI_call { callee := (Callee.value (Operand.func 55)), args := #[(Operand.tmp 67)], argTypes := #[23] } 55 #[.agg (Vt.cells x).toArray] (some 68) (by kernel_rfl) (by kernel_rfl) (by kernel_rfl) (cvCapital_spec x _) ?_
      rintro _ w75 ⟨rfl, hk76⟩
      refine ⟨_, rfl, ?_⟩
      have hsz77 := Keep.size hk76
      replace hb1 := hb1.keep hk76 (fun f => f)
      replace hm55 := hm55.keep hk76 (fun f => f)
      replace hm57 := hm57.keep hk76 (fun f => f)
      replace hm59 := hm59.keep hk76 (fun f => f)
      replace hb66_71 := hb66_71.keep hk76 (fun f => f)
      replace hl := Led.keep hl hk76 (fun _ _ f => f)
      replace hK0 := Keep.tr hK0 (Keep.ofNone hk76)
      replace ho41 := Vot.keep ho41 hk76 (fun _ _ f => f)
      refine OI_static 4 [(0, pt v), (1, pt l), (2, nt who), (3, nt ref), (9, pt b1), (11, pt b16), (12, pt q38), (13, pt b66), (14, .bool ((GV.getC who ref s.cs).isSome)), (68, nt (capI x)), (69, pt l), (70, nt who)] (by kernel_rfl) ?_
      refine OI_call { callee := (Callee.value (Operand.func 38)), args := #[(Operand.tmp 69), (Operand.tmp 70)], argTypes := #[30, 3] } 38 #[pt l, nt who] (some 71) (by kernel_rfl) (by kernel_rfl) (by kernel_rfl) (free_spec G l xs cs who _ hl) ?_
      rintro _ w78 ⟨rfl, hk79⟩
      refine ⟨_, rfl, ?_⟩
      have hsz80 := Keep.size hk79
      replace hb1 := hb1.keep hk79 (fun f => f)
      replace hm55 := hm55.keep hk79 (fun f => f)
      replace hm57 := hm57.keep hk79 (fun f => f)
      replace hm59 := hm59.keep hk79 (fun f => f)
      replace hb66_71 := hb66_71.keep hk79 (fun f => f)
      replace hl := Led.keep hl hk79 (fun _ _ f => f)
      replace hK0 := Keep.tr hK0 (Keep.ofNone hk79)
      replace ho41 := Vot.keep ho41 hk79 (fun _ _ f => f)
      refine OI_static 7 [(0, pt v), (1, pt l), (2, nt who), (3, nt ref), (9, pt b1), (11, pt b16), (12, pt q38), (13, pt b66), (14, .bool ((GV.getC who ref s.cs).isSome)), (66, .bool (decide (capI x > (acct xs who).free)))] (by kernel_rfl) ?_
      refine OI_end rfl ?_
      refine X_then ?_
      refine V_if (capI x > (acct xs who).free) (by kernel_rfl) (fun hc81 => ?_) (fun hc81 => ?_)
      ·
       refine V_seq ?_
       refine V_region ?_
       refine OI_static 1 [(10, nt 6)] (by kernel_rfl) ?_
       refine OI_end rfl ?_
       refine X_then ?_
       refine V_ret ?_
       refine X_ret_block ?_
       refine X_ret_then ?_
       have hE82 : voteE xs s who ref x = 6 := by unfold voteE; rw [if_neg (by rintro (h9 | h9); exact h9 hg8; exact h9 hc14)]; rw [hpa16]; dsimp only; rw [if_neg (fun h9 => h9 hc30)]; rw [if_neg (by rw [hd32]; decide)]; rw [if_pos hc81]
       exact X_return (nt 6) rfl ⟨by rw [hE82], ⟨F40, G, ⟨_, by rw [show voteS xs s who ref x = s from by unfold voteS; rw [hE82, if_neg (by decide)]]; exact ho41⟩, by rw [show voteC xs cs s who ref x = cs from by unfold voteC; rw [hE82, if_neg (by decide)]]; exact hl, rel53, hGr, dis54⟩, hK0⟩
      ·
       refine V_seq ?_
       refine V_region ?_
       refine OI_static 3 [(0, pt v), (1, pt l), (2, nt who), (3, nt ref), (9, pt b1), (11, pt b16), (12, pt q38), (13, pt b66), (14, .bool ((GV.getC who ref s.cs).isSome)), (76, .bool (!((GV.getC who ref s.cs).isSome)))] (by kernel_rfl) ?_
       cases hg83 : (!((GV.getC who ref s.cs).isSome))
       ·
        refine OI_eq [(0, pt v), (1, pt l), (2, nt who), (3, nt ref), (9, pt b1), (11, pt b16), (12, pt q38), (13, pt b66), (14, .bool ((GV.getC who ref s.cs).isSome)), (76, .bool false)] (by first | rfl | rw [hg83]) ?_
        refine OI_static 13 [(0, pt v), (1, pt l), (2, nt who), (3, nt ref), (9, pt b1), (11, pt b16), (12, pt q38), (13, pt b66), (14, .bool ((GV.getC who ref s.cs).isSome)), (73, .bool false)] (by kernel_rfl) ?_
        refine OI_end rfl ?_
        refine X_then ?_
        refine V_false rfl ?_
        refine V_skip ?_
        refine X_block ?_
        refine X_then ?_
        refine V_seq ?_
        refine V_seq ?_
        refine V_region ?_
        refine OI_static 1 [(0, pt v), (1, pt l), (2, nt who), (3, nt ref), (9, pt b1), (11, pt b16), (12, pt q38), (13, pt b66), (86, .bool ((GV.getC who ref s.cs).isSome))] (by kernel_rfl) ?_
        refine OI_end rfl ?_
        refine X_then ?_
        refine V_eq [(0, pt v), (1, pt l), (2, nt who), (3, nt ref), (9, pt b1), (11, pt b16), (12, pt q38), (13, pt b66), (86, .bool true)] (by rw [(show (GV.getC who ref s.cs).isSome = true from by simpa using hg83)]) ?_
        refine V_true rfl ?_
        refine V_draws (acts [10, 11, 14]) none_ [[5, 6, 7, 8, 9, 10, 1, 2, 3, 4, 11, 0, 12, 13, 14]] (by kernel_rfl) (by repeat first | exact sure_body (by rintro _ _ ⟨h, _⟩; exact ⟨_, h⟩) | refine sure_then ?_ | refine sure_block ?_ | refine sure_join ?_) (by kernel_rfl) ?_
        intro w86 hk85 he87 L hL88
        have hsz89 := Keep.size hk85
        replace hb1 := hb1.keep hk85 (fun f => f)
        replace hm55 := hm55.keep hk85 (fun f => f)
        replace hm57 := hm57.keep hk85 (fun f => f)
        replace hm59 := hm59.keep hk85 (fun f => f)
        replace hb66_71 := hb66_71.keep hk85 (fun f => f)
        replace hl := Led.keep hl hk85 (fun _ _ f => f)
        replace hK0 := Keep.tr hK0 (Keep.ofNone hk85)
        replace ho41 := Vot.keep ho41 hk85 (fun _ _ f => f)
        have qhb1 := hb1
        have qhm55 := hm55
        have qhm57 := hm57
        have qhm59 := hm59
        have qhb66_71 := hb66_71
        have K90 : Keep none_ w86 w86 := Keep.refl _ _
        obtain rfl := List.mem_singleton.1 hL88
        refine GI_agg 23 (.tmp 13) 0 (Vt.cells ((GV.getC who ref s.cs).getD Vt.zero)) (some 92) (by kernel_rfl) (by kernel_rfl) (by kernel_rfl) qhb66_71 (fun f => f) (m := 6) (by kernel_rfl) (take_all (Vt.len _)) (Vt.len _) ?_
        refine GI_static [9, 10, 1, 2, 3, 4, 11, 0, 12, 13, 14] [(0, pt v), (1, pt l), (2, nt who), (3, nt ref), (9, pt b1), (11, pt b16), (12, pt q38), (92, .agg (Vt.cells ((GV.getC who ref s.cs).getD Vt.zero)).toArray), (95, .pointer (some ⟨q38, 1, none⟩))] (by kernel_rfl) ?_
        refine GI_agg 54 (.tmp 95) 1 [nt (((s.rc who ((q16).track))).got.v), nt (((s.rc who ((q16).track))).got.c)] (some 96) (by kernel_rfl) (by kernel_rfl) (by kernel_rfl) qhm59 (fun f => f) (m := 2) (by kernel_rfl) rfl rfl ?_
        refine GI_call { callee := (Callee.value (Operand.func 57)), args := #[(Operand.tmp 92), (Operand.tmp 96)], argTypes := #[23, 54] } 57 #[.agg (Vt.cells ((GV.getC who ref s.cs).getD Vt.zero)).toArray, .agg #[nt (((s.rc who ((q16).track))).got.v), nt (((s.rc who ((q16).track))).got.c)]] (some 97) (by kernel_rfl) (by kernel_rfl) (by kernel_rfl) (by kernel_rfl) (cvGain_spec ((GV.getC who ref s.cs).getD Vt.zero) (((s.rc who ((q16).track))).got) _) ?_
        rintro _ w93 ⟨rfl, hk94⟩
        have K95 := K90.tr (Keep.ofNone hk94)
        refine ⟨_, rfl, K95, ?_⟩
        have hzK95 := Keep.size K95
        have hsz96 := Keep.size hk94
        replace hb1 := hb1.keep hk94 (fun f => f)
        replace hm55 := hm55.keep hk94 (fun f => f)
        replace hm57 := hm57.keep hk94 (fun f => f)
        replace hm59 := hm59.keep hk94 (fun f => f)
        replace hb66_71 := hb66_71.keep hk94 (fun f => f)
        replace hl := Led.keep hl hk94 (fun _ _ f => f)
        replace hK0 := Keep.tr hK0 (Keep.ofNone hk94)
        replace ho41 := Vot.keep ho41 hk94 (fun _ _ f => f)
        refine GI_static [4, 11, 0, 12, 13, 14] [(0, pt v), (1, pt l), (2, nt who), (3, nt ref), (9, pt b1), (11, pt b16), (12, pt q38), (90, .pointer (some ⟨b16, 1, none⟩)), (97, .agg (Tly.cells (gainT ((GV.getC who ref s.cs).getD Vt.zero) (((s.rc who ((q16).track))).got))).toArray)] (by kernel_rfl) ?_
        refine GI_agg 43 (.tmp 90) 1 [nt ((q16).t.a), nt ((q16).t.n), nt ((q16).t.s)] (some 91) (by kernel_rfl) (by kernel_rfl) (by kernel_rfl) qhm57 (fun f => f) (m := 3) (by kernel_rfl) rfl rfl ?_
        refine GI_call { callee := (Callee.value (Operand.func 56)), args := #[(Operand.tmp 91), (Operand.tmp 97)], argTypes := #[43, 43] } 56 #[.agg #[nt ((q16).t.a), nt ((q16).t.n), nt ((q16).t.s)], .agg (Tly.cells (gainT ((GV.getC who ref s.cs).getD Vt.zero) (((s.rc who ((q16).track))).got))).toArray] (some 98) (by kernel_rfl) (by kernel_rfl) (by kernel_rfl) (by kernel_rfl) (cvSub_spec ((q16).t) (gainT ((GV.getC who ref s.cs).getD Vt.zero) (((s.rc who ((q16).track))).got)) _) ?_
        rintro _ w99 ⟨rfl, hk100⟩
        have K101 := K95.tr (Keep.ofNone hk100)
        refine ⟨_, rfl, K101, ?_⟩
        have hzK101 := Keep.size K101
        have hsz102 := Keep.size hk100
        replace hb1 := hb1.keep hk100 (fun f => f)
        replace hm55 := hm55.keep hk100 (fun f => f)
        replace hm57 := hm57.keep hk100 (fun f => f)
        replace hm59 := hm59.keep hk100 (fun f => f)
        replace hb66_71 := hb66_71.keep hk100 (fun f => f)
        replace hl := Led.keep hl hk100 (fun _ _ f => f)
        replace hK0 := Keep.tr hK0 (Keep.ofNone hk100)
        replace ho41 := Vot.keep ho41 hk100 (fun _ _ f => f)
        refine GI_static [14] [(0, pt v), (1, pt l), (2, nt who), (3, nt ref), (9, pt b1), (11, pt b16), (12, pt q38), (98, .agg (Tly.cells (subT ((q16).t) (gainT ((GV.getC who ref s.cs).getD Vt.zero) (((s.rc who ((q16).track))).got)))).toArray), (100, .pointer (some ⟨b16, 1, none⟩))] (by kernel_rfl) ?_
        refine GI_final 14 (by kernel_rfl) (by kernel_rfl) ?_
        refine OI_set (m := 3) (kd := true) 43 (.tmp 100) (.tmp 98) 1 (.agg (Tly.cells (subT ((q16).t) (gainT ((GV.getC who ref s.cs).getD Vt.zero) (((s.rc who ((q16).track))).got)))).toArray) (Tly.cells (subT ((q16).t) (gainT ((GV.getC who ref s.cs).getD Vt.zero) (((s.rc who ((q16).track))).got)))) none (by kernel_rfl) (by kernel_rfl) (by kernel_rfl) hm57 (by kernel_rfl) rfl (Tly.len _) (Nat.le_of_ble_eq_true (by kernel_rfl)) (Tly.one _) ?_
        intro w103 hn106 hk104 hz105
        replace hn106 : Blk w103 b16 (PollS.cells { q16 with t := (subT ((q16).t) (gainT ((GV.getC who ref s.cs).getD Vt.zero) (((s.rc who ((q16).track))).got))) }) 89 := hn106
        have hsz107 := Keep.size hk104
        replace hb1 := hb1.keep hk104 (by show ¬ (b1 = b16); omega)
        replace hm55 := hm55.keep hk104 (by show ¬ (v = b16); omega)
        replace hm59 := hm59.keep hk104 (by show ¬ (q38 = b16); omega)
        replace hb66_71 := hb66_71.keep hk104 (by show ¬ (b66 = b16); omega)
        replace hl := Led.keep hl hk104 (fun q hq hs => (fun q h1 h2 => dis54 q h2 h1) q hq (by rw [show q = b16 from hs]; exact hF58))
        replace hK0 := Keep.fresh hK0 hk104 (fun i hi hs => by have hs : F40 i := (by rw [show i = b16 from hs]; exact hF58); rcases rel53 i hs with h | h; exact .inl h; (exfalso; omega))
        obtain ⟨tv109, htv109⟩ : ∃ t9 : Tly, t9 = (subT ((q16).t) (gainT ((GV.getC who ref s.cs).getD Vt.zero) (((s.rc who ((q16).track))).got))) := ⟨_, rfl⟩
        rw [← htv109] at hn106
        have ho108 := Vot.setPoll ho41 hqb16w48 hps16 hk104 (show Blk _ _ (PollS.cells { q16 with t := tv109 }) _ from hn106)
        have hs110 : (s.setP i16 { q16 with t := tv109 }).ps[i16]? = some (some { q16 with t := tv109 }) := List.getElem?_set_self (List.getElem?_eq_some_iff.1 hps16).1
        have hb16lt := hn106.lt
        refine OI_end rfl ?_
        refine X_then ?_
        refine V_seq ?_
        refine V_draws (acts [10, 11, 12, 15]) none_ [[5, 6, 7, 8, 9, 10, 11, 1, 2, 3, 4, 12, 0, 13, 14, 15]] (by kernel_rfl) (by repeat first | exact sure_body (by rintro _ _ ⟨h, _⟩; exact ⟨_, h⟩) | refine sure_then ?_ | refine sure_block ?_ | refine sure_join ?_) (by kernel_rfl) ?_
        intro w112 hk111 he113 L hL114
        have hsz115 := Keep.size hk111
        replace hb1 := hb1.keep hk111 (fun f => f)
        replace hm55 := hm55.keep hk111 (fun f => f)
        replace hm59 := hm59.keep hk111 (fun f => f)
        replace hb66_71 := hb66_71.keep hk111 (fun f => f)
        replace hn106 := hn106.keep hk111 (fun f => f)
        replace hl := Led.keep hl hk111 (fun _ _ f => f)
        replace hK0 := Keep.tr hK0 (Keep.ofNone hk111)
        replace ho108 := Vot.keep ho108 hk111 (fun _ _ f => f)
        have qhb1 := hb1
        have qhm55 := hm55
        have qhm59 := hm59
        have qhb66_71 := hb66_71
        have qhn106 := hn106
        have K116 : Keep none_ w112 w112 := Keep.refl _ _
        obtain rfl := List.mem_singleton.1 hL114
        refine GI_agg 23 (.tmp 9) 0 (Vt.cells x) (some 106) (by kernel_rfl) (by kernel_rfl) (by kernel_rfl) qhb1 (fun f => f) (m := 6) (by kernel_rfl) (take_all (Vt.len _)) (Vt.len _) ?_
        refine GI_static [9, 10, 11, 1, 2, 3, 4, 12, 0, 13, 14, 15] [(0, pt v), (1, pt l), (2, nt who), (3, nt ref), (9, pt b1), (11, pt b16), (106, .agg (Vt.cells x).toArray), (109, .pointer (some ⟨q38, 1, none⟩))] (by kernel_rfl) ?_
        refine GI_agg 54 (.tmp 109) 1 [nt (((s.rc who ((q16).track))).got.v), nt (((s.rc who ((q16).track))).got.c)] (some 110) (by kernel_rfl) (by kernel_rfl) (by kernel_rfl) qhm59 (fun f => f) (m := 2) (by kernel_rfl) rfl rfl ?_
        refine GI_call { callee := (Callee.value (Operand.func 57)), args := #[(Operand.tmp 106), (Operand.tmp 110)], argTypes := #[23, 54] } 57 #[.agg (Vt.cells x).toArray, .agg #[nt (((s.rc who ((q16).track))).got.v), nt (((s.rc who ((q16).track))).got.c)]] (some 111) (by kernel_rfl) (by kernel_rfl) (by kernel_rfl) (by kernel_rfl) (cvGain_spec x (((s.rc who ((q16).track))).got) _) ?_
        rintro _ w119 ⟨rfl, hk120⟩
        have K121 := K116.tr (Keep.ofNone hk120)
        refine ⟨_, rfl, K121, ?_⟩
        have hzK121 := Keep.size K121
        have hsz122 := Keep.size hk120
        replace hb1 := hb1.keep hk120 (fun f => f)
        replace hm55 := hm55.keep hk120 (fun f => f)
        replace hm59 := hm59.keep hk120 (fun f => f)
        replace hb66_71 := hb66_71.keep hk120 (fun f => f)
        replace hn106 := hn106.keep hk120 (fun f => f)
        replace hl := Led.keep hl hk120 (fun _ _ f => f)
        replace hK0 := Keep.tr hK0 (Keep.ofNone hk120)
        replace ho108 := Vot.keep ho108 hk120 (fun _ _ f => f)
        refine GI_slit (E := 43) (zv := .agg #[nt 0, nt 0, nt 0]) (sz := 3) (by_ := 24) 153 1 #[(0, (Operand.tmp 111))] [.agg (Tly.cells (gainT x (((s.rc who ((q16).track))).got))).toArray] (Tly.cells (gainT x (((s.rc who ((q16).track))).got))) (some 112) (by kernel_rfl) (by kernel_rfl) K121 (by kernel_rfl) (by kernel_rfl) (by omega) rfl (by omega) (by intro v hv; obtain rfl := List.mem_singleton.1 hv; show (Tly.cells (gainT x (((s.rc who ((q16).track))).got))).toArray.size = 3; simp [Tly.len]) (by kernel_rfl) (by show (Tly.cells (gainT x (((s.rc who ((q16).track))).got))).toArray.toList ++ [] = _; simp) ?_
        intro b123 w123 e123 hb123 k123 z123 K124
        have hsz125 := Keep.size k123
        replace hb1 := hb1.keep k123 (fun f => f)
        replace hm55 := hm55.keep k123 (fun f => f)
        replace hm59 := hm59.keep k123 (fun f => f)
        replace hb66_71 := hb66_71.keep k123 (fun f => f)
        replace hn106 := hn106.keep k123 (fun f => f)
        replace hl := Led.keep hl k123 (fun _ _ f => f)
        replace hK0 := Keep.tr hK0 (Keep.ofNone k123)
        replace ho108 := Vot.keep ho108 k123 (fun _ _ f => f)
        have hb123lt := hb123.lt
        refine GI_static [4, 12, 0, 13, 14, 15] [(0, pt v), (1, pt l), (2, nt who), (3, nt ref), (9, pt b1), (11, pt b16), (104, .pointer (some ⟨b16, 1, none⟩)), (112, .slice (some ⟨b123, 0, none⟩) 1 1)] (by kernel_rfl) ?_
        refine GI_agg 43 (.tmp 104) 1 [nt ((tv109).a), nt ((tv109).n), nt ((tv109).s)] (some 105) (by kernel_rfl) (by kernel_rfl) (by kernel_rfl) qhn106 (fun f => f) (m := 3) (by kernel_rfl) rfl rfl ?_
        refine GI_call { callee := (Callee.value (Operand.func 58)), args := #[(Operand.tmp 105), (Operand.tmp 112)], argTypes := #[43, 153] } 58 #[.agg #[nt ((tv109).a), nt ((tv109).n), nt ((tv109).s)], .slice (some ⟨b123, 0, none⟩) 1 1] (some 113) (by kernel_rfl) (by kernel_rfl) (by kernel_rfl) (by kernel_rfl) (cvAdd1 b123 (Tly.mk ((tv109).a) ((tv109).n) ((tv109).s)) (gainT x (((s.rc who ((q16).track))).got)) _ _ hb123) ?_
        rintro _ w130 ⟨rfl, hk131⟩
        have K132 := K124.tr (Keep.ofNone hk131)
        refine ⟨_, rfl, K132, ?_⟩
        have hzK132 := Keep.size K132
        have hsz133 := Keep.size hk131
        replace hb1 := hb1.keep hk131 (fun f => f)
        replace hm55 := hm55.keep hk131 (fun f => f)
        replace hm59 := hm59.keep hk131 (fun f => f)
        replace hb66_71 := hb66_71.keep hk131 (fun f => f)
        replace hn106 := hn106.keep hk131 (fun f => f)
        replace hb123 := hb123.keep hk131 (fun f => f)
        replace hl := Led.keep hl hk131 (fun _ _ f => f)
        replace hK0 := Keep.tr hK0 (Keep.ofNone hk131)
        replace ho108 := Vot.keep ho108 hk131 (fun _ _ f => f)
        refine GI_static [15] [(0, pt v), (1, pt l), (2, nt who), (3, nt ref), (9, pt b1), (11, pt b16), (113, .agg (Tly.cells (addT (Tly.mk ((tv109).a) ((tv109).n) ((tv109).s)) (gainT x (((s.rc who ((q16).track))).got)))).toArray), (115, .pointer (some ⟨b16, 1, none⟩))] (by kernel_rfl) ?_
        refine GI_final 15 (by kernel_rfl) (by kernel_rfl) ?_
        refine OI_set (m := 3) (kd := true) 43 (.tmp 115) (.tmp 113) 1 (.agg (Tly.cells (addT (Tly.mk ((tv109).a) ((tv109).n) ((tv109).s)) (gainT x (((s.rc who ((q16).track))).got)))).toArray) (Tly.cells (addT (Tly.mk ((tv109).a) ((tv109).n) ((tv109).s)) (gainT x (((s.rc who ((q16).track))).got)))) none (by kernel_rfl) (by kernel_rfl) (by kernel_rfl) hn106 (by kernel_rfl) rfl (Tly.len _) (Nat.le_of_ble_eq_true (by kernel_rfl)) (Tly.one _) ?_
        intro w134 hn137 hk135 hz136
        replace hn137 : Blk w134 b16 (PollS.cells { q16 with t := (addT (Tly.mk ((tv109).a) ((tv109).n) ((tv109).s)) (gainT x (((s.rc who ((q16).track))).got))) }) 89 := hn137
        have hsz138 := Keep.size hk135
        replace hb1 := hb1.keep hk135 (by show ¬ (b1 = b16); omega)
        replace hm55 := hm55.keep hk135 (by show ¬ (v = b16); omega)
        replace hm59 := hm59.keep hk135 (by show ¬ (q38 = b16); omega)
        replace hb66_71 := hb66_71.keep hk135 (by show ¬ (b66 = b16); omega)
        replace hb123 := hb123.keep hk135 (by show ¬ (b123 = b16); omega)
        replace hl := Led.keep hl hk135 (fun q hq hs => (fun q h1 h2 => dis54 q h2 h1) q hq (by rw [show q = b16 from hs]; exact hF58))
        replace hK0 := Keep.fresh hK0 hk135 (fun i hi hs => by have hs : F40 i := (by rw [show i = b16 from hs]; exact hF58); rcases rel53 i hs with h | h; exact .inl h; (exfalso; omega))
        obtain ⟨tv140, htv140⟩ : ∃ t9 : Tly, t9 = (addT (Tly.mk ((tv109).a) ((tv109).n) ((tv109).s)) (gainT x (((s.rc who ((q16).track))).got))) := ⟨_, rfl⟩
        rw [← htv140] at hn137
        have ho139 := Vot.setPoll ho108 hqb16w48 hs110 hk135 (show Blk _ _ (PollS.cells { q16 with t := tv140 }) _ from hn137)
        have hs141 : ((s.setP i16 { q16 with t := tv109 }).setP i16 { q16 with t := tv140 }).ps[i16]? = some (some { q16 with t := tv140 }) := List.getElem?_set_self (List.getElem?_eq_some_iff.1 hs110).1
        have hb16lt := hn137.lt
        refine OI_end rfl ?_
        refine X_then ?_
        refine V_seq ?_
        refine V_draws (acts [7]) none_ [[0, 1, 2, 3, 4, 5, 6, 7]] (by kernel_rfl) (by repeat first | exact sure_body (by rintro _ _ ⟨h, _⟩; exact ⟨_, h⟩) | refine sure_then ?_ | refine sure_block ?_ | refine sure_join ?_) (by kernel_rfl) ?_
        intro w143 hk142 he144 L hL145
        have hsz146 := Keep.size hk142
        replace hb1 := hb1.keep hk142 (fun f => f)
        replace hm55 := hm55.keep hk142 (fun f => f)
        replace hm59 := hm59.keep hk142 (fun f => f)
        replace hb66_71 := hb66_71.keep hk142 (fun f => f)
        replace hb123 := hb123.keep hk142 (fun f => f)
        replace hn137 := hn137.keep hk142 (fun f => f)
        replace hl := Led.keep hl hk142 (fun _ _ f => f)
        replace hK0 := Keep.tr hK0 (Keep.ofNone hk142)
        replace ho139 := Vot.keep ho139 hk142 (fun _ _ f => f)
        have qhb1 := hb1
        have qhm55 := hm55
        have qhm59 := hm59
        have qhb66_71 := hb66_71
        have qhb123 := hb123
        have qhn137 := hn137
        have K147 : Keep none_ w143 w143 := Keep.refl _ _
        obtain rfl := List.mem_singleton.1 hL145
        refine GI_static [3, 4, 5, 6, 7] [(1, pt l), (2, nt who), (3, nt ref), (9, pt b1), (11, pt b16), (118, .pointer (some ⟨v, 12, none⟩))] (by kernel_rfl) ?_
        refine GI_cell 91 (.tmp 118) 12 (pt P39.gv) (some 119) (by kernel_rfl) (by kernel_rfl) (by kernel_rfl) qhm55 (fun f => f) (m := 1) (by kernel_rfl) (by rw [List.getElem?_append_right (by rw [List.length_map]; omega), List.length_map, hvlhm55]; rfl) ?_
        refine GI_static [6, 7] [(1, pt l), (2, nt who), (9, pt b1), (11, pt b16), (119, pt P39.gv), (120, nt who), (121, nt ref)] (by kernel_rfl) ?_
        refine GI_agg 23 (.tmp 9) 0 (Vt.cells x) (some 122) (by kernel_rfl) (by kernel_rfl) (by kernel_rfl) qhb1 (fun f => f) (m := 6) (by kernel_rfl) (take_all (Vt.len _)) (Vt.len _) ?_
        refine GI_final 7 (by kernel_rfl) (by kernel_rfl) ?_
        refine OI_call { callee := (Callee.value (Operand.func 59)), args := #[(Operand.tmp 119), (Operand.tmp 120), (Operand.tmp 121), (Operand.tmp 122)], argTypes := #[91, 3, 3, 23] } 59 #[pt P39.gv, nt who, nt ref, .agg (Vt.cells x).toArray] (some 123) (by kernel_rfl) (by kernel_rfl) (by kernel_rfl) (vset_spec F40 v P39 ((s.setP i16 { q16 with t := tv109 }).setP i16 { q16 with t := tv140 }) who ref x _ ho139 (by omega) (by omega) hc14 (by rw [hpr16, Int.toNat_natCast]; exact ⟨_, hs141⟩)) ?_
        rintro _ w152 ⟨rfl, ⟨F154, ho155, hfr156⟩, hk153⟩
        refine ⟨_, rfl, ?_⟩
        have hsz157 := Keep.size hk153
        replace hb1 := hb1.keep hk153 (fun hs => by have h1 := own52 _ hs; have h2 := lt51 _ hs; omega)
        replace hb66_71 := hb66_71.keep hk153 (fun hs => by have h1 := own52 _ hs; have h2 := lt51 _ hs; omega)
        replace hb123 := hb123.keep hk153 (fun hs => by have h1 := own52 _ hs; have h2 := lt51 _ hs; omega)
        replace hl := Led.keep hl hk153 (fun q hq hs => dis54 q hs hq)
        replace hK0 := Keep.fresh hK0 hk153 (fun i hi hs => by rcases rel53 i hs with h | h; exact .inl h; (exfalso; omega))
        have own159 : ∀ q, F154 q → 0 ≤ q ∧ q ≠ b1 ∧ q ≠ b66 ∧ q ≠ b123 := fun q hq => by rcases hfr156 q hq with h | h; (have h1 := own52 q h; have h2 := lt51 q h; omega); omega
        have lt158 := Vot.lt ho155
        have rel160 : ∀ q, F154 q → F q ∨ w.heap.size ≤ q := fun q hq => by rcases hfr156 q hq with h | h; exact rel53 q h; exact .inr (by omega)
        have dis161 : ∀ q, F154 q → ¬ G q := fun q h1 h2 => by rcases hfr156 q h1 with h | h; exact dis54 q h h2; (have h4 := hGlt q h2; omega)
        obtain ⟨hvlhm162, hm162⟩ := Vot.vblk ho155
        have hF163 := Vot.at_ ho155
        have hvlt := hm162.lt
        have hlov := lt158 _ hF163
        have hov := own159 _ hF163
        obtain ⟨hm164, hF165⟩ := Vot.pollB ho155 hqb16w48 hs141
        have hb16lt := hm164.lt
        have hlob16 := lt158 _ hF165
        have hob16 := own159 _ hF165
        obtain ⟨hF167, hm166⟩ := Vot.recN ho155 hgc43 hd32
        have hq38lt := hm166.lt
        have hloq38 := lt158 _ hF167
        have hoq38 := own159 _ hF167
        have hneb16v : b16 ≠ v := Blk.ne hm164 hm162 (by decide)
        have hneq38v : q38 ≠ v := Blk.ne hm166 hm162 (by decide)
        have hneq38b16 : q38 ≠ b16 := Blk.ne hm166 hm164 (by decide)
        refine OI_end rfl ?_
        refine X_then ?_
        refine V_seq ?_
        refine V_draws (acts [7, 8]) none_ [[6, 7, 0, 1, 2, 3, 4, 5, 8]] (by kernel_rfl) (by repeat first | exact sure_body (by rintro _ _ ⟨h, _⟩; exact ⟨_, h⟩) | refine sure_then ?_ | refine sure_block ?_ | refine sure_join ?_) (by kernel_rfl) ?_
        intro w169 hk168 he170 L hL171
        have hsz172 := Keep.size hk168
        replace hb1 := hb1.keep hk168 (fun f => f)
        replace hb66_71 := hb66_71.keep hk168 (fun f => f)
        replace hb123 := hb123.keep hk168 (fun f => f)
        replace hm162 := hm162.keep hk168 (fun f => f)
        replace hm164 := hm164.keep hk168 (fun f => f)
        replace hm166 := hm166.keep hk168 (fun f => f)
        replace hl := Led.keep hl hk168 (fun _ _ f => f)
        replace hK0 := Keep.tr hK0 (Keep.ofNone hk168)
        replace ho155 := Vot.keep ho155 hk168 (fun _ _ f => f)
        have qhb1 := hb1
        have qhb66_71 := hb66_71
        have qhb123 := hb123
        have qhm162 := hm162
        have qhm164 := hm164
        have qhm166 := hm166
        have K173 : Keep none_ w169 w169 := Keep.refl _ _
        obtain rfl := List.mem_singleton.1 hL171
        refine GI_agg 23 (.tmp 9) 0 (Vt.cells x) (some 130) (by kernel_rfl) (by kernel_rfl) (by kernel_rfl) qhb1 (fun f => f) (m := 6) (by kernel_rfl) (take_all (Vt.len _)) (Vt.len _) ?_
        refine GI_call { callee := (Callee.value (Operand.func 55)), args := #[(Operand.tmp 130)], argTypes := #[23] } 55 #[.agg (Vt.cells x).toArray] (some 131) (by kernel_rfl) (by kernel_rfl) (by kernel_rfl) (by kernel_rfl) (cvCapital_spec x _) ?_
        rintro _ w176 ⟨rfl, hk177⟩
        have K178 := K173.tr (Keep.ofNone hk177)
        refine ⟨_, rfl, K178, ?_⟩
        have hzK178 := Keep.size K178
        have hsz179 := Keep.size hk177
        replace hb1 := hb1.keep hk177 (fun f => f)
        replace hb66_71 := hb66_71.keep hk177 (fun f => f)
        replace hb123 := hb123.keep hk177 (fun f => f)
        replace hm162 := hm162.keep hk177 (fun f => f)
        replace hm164 := hm164.keep hk177 (fun f => f)
        replace hm166 := hm166.keep hk177 (fun f => f)
        replace hl := Led.keep hl hk177 (fun _ _ f => f)
        replace hK0 := Keep.tr hK0 (Keep.ofNone hk177)
        replace ho155 := Vot.keep ho155 hk177 (fun _ _ f => f)
        refine GI_static [5, 8] [(124, pt l), (125, nt who), (128, pt b16), (131, nt (capI x))] (by kernel_rfl) ?_
        refine GI_cell 3 (.tmp 128) 0 (nt ((q16).track)) (some 129) (by kernel_rfl) (by kernel_rfl) (by kernel_rfl) qhm164 (fun f => f) (m := 1) (by kernel_rfl) rfl ?_
        refine GI_final 8 (by kernel_rfl) (by kernel_rfl) ?_
        refine OI_call { callee := (Callee.value (Operand.func 52)), args := #[(Operand.tmp 124), (Operand.tmp 125), (Operand.tmp 129), (Operand.tmp 131)], argTypes := #[30, 3, 3, 3] } 52 #[pt l, nt who, nt ((q16).track), nt (capI x)] (some 132) (by kernel_rfl) (by kernel_rfl) (by kernel_rfl) (raise_spec G l xs cs who ((q16).track) (capI x) _ hl hmax) ?_
        rintro _ w182 ⟨rfl, ⟨F184, ho185, hfr186⟩, hk183⟩
        refine ⟨_, rfl, ?_⟩
        have hsz187 := Keep.size hk183
        replace hb1 := hb1.keep hk183 (fun hs => by have h1 := hGo _ hs; have h2 := hGlt _ hs; omega)
        replace hb66_71 := hb66_71.keep hk183 (fun hs => by have h1 := hGo _ hs; have h2 := hGlt _ hs; omega)
        replace hb123 := hb123.keep hk183 (fun hs => by have h1 := hGo _ hs; have h2 := hGlt _ hs; omega)
        replace hK0 := Keep.fresh hK0 hk183 (fun i hi hs => by rcases hGr i hs with h | h; exact .inr h; (exfalso; omega))
        replace ho155 := Vot.keep ho155 hk183 (fun q hq hs => (fun q h1 h2 => dis161 q h2 h1) q hs hq)
        have own189 : ∀ q, F184 q → 0 ≤ q ∧ q ≠ b1 ∧ q ≠ b66 ∧ q ≠ b123 := fun q hq => by rcases hfr186 q hq with h | h; (have h1 := hGo q h; have h2 := hGlt q h; omega); omega
        have lt188 := Led.lt ho185
        have rel190 : ∀ q, F184 q → G q ∨ w.heap.size ≤ q := fun q hq => by rcases hfr186 q hq with h | h; exact hGr q h; exact .inr (by omega)
        have dis191 : ∀ q, F184 q → ¬ F154 q := fun q h1 h2 => by rcases hfr186 q h1 with h | h; exact (fun q h1 h2 => dis161 q h2 h1) q h h2; (have h4 := lt158 q h2; omega)
        obtain ⟨hvlhm192, hm192⟩ := Vot.vblk ho155
        have hF193 := Vot.at_ ho155
        have hvlt := hm192.lt
        have hlov := lt158 _ hF193
        have hov := own159 _ hF193
        obtain ⟨hm194, hF195⟩ := Vot.pollB ho155 hqb16w48 hs141
        have hb16lt := hm194.lt
        have hlob16 := lt158 _ hF195
        have hob16 := own159 _ hF195
        obtain ⟨hF197, hm196⟩ := Vot.recN ho155 hgc43 hd32
        have hq38lt := hm196.lt
        have hloq38 := lt158 _ hF197
        have hoq38 := own159 _ hF197
        have hneb16v : b16 ≠ v := Blk.ne hm194 hm192 (by decide)
        have hneq38v : q38 ≠ v := Blk.ne hm196 hm192 (by decide)
        have hneq38b16 : q38 ≠ b16 := Blk.ne hm196 hm194 (by decide)
        refine OI_end rfl ?_
        refine X_then ?_
        refine V_seq ?_
        refine V_region ?_
        refine OI_static 1 [(10, nt 0)] (by kernel_rfl) ?_
        refine OI_end rfl ?_
        refine X_then ?_
        refine V_ret ?_
        have hE198 : voteE xs s who ref x = 0 := by unfold voteE; rw [if_neg (by rintro (h9 | h9); exact h9 hg8; exact h9 hc14)]; rw [hpa16]; dsimp only; rw [if_neg (fun h9 => h9 hc30)]; rw [if_neg (by rw [hd32]; decide)]; rw [if_neg hc81]; rw [if_neg (fun h9 => by rw [(show (GV.getC who ref s.cs).isSome = true from by simpa using hg83)] at h9; cases h9.1)]
        have hVT : voteT s who ref x q16 = tv140 := by unfold voteT; rw [(show (GV.getC who ref s.cs).isSome = true from by simpa using hg83), htv140, htv109]; rfl
        exact X_return (nt 0) rfl ⟨by rw [hE198], ⟨F154, F184, ⟨_, by rw [show voteS xs s who ref x = ({ (s.setP i16 { q16 with t := tv109 }).setP i16 { q16 with t := tv140 } with cs := GV.setC who ref x ((s.setP i16 { q16 with t := tv109 }).setP i16 { q16 with t := tv140 }).cs }) from by unfold voteS; rw [hE198, if_pos rfl, hpa16]; dsimp only; rw [hVT, hpr16, Int.toNat_natCast]; first | rfl | (simp only [VS.setP_setP]; rfl)]; exact ho155⟩, by rw [show voteC xs cs s who ref x = raiseC cs who q16.track (capI x) from by unfold voteC; rw [hE198, if_pos rfl, hpa16]]; exact ho185, rel160, rel190, (fun q h1 h2 => dis191 q h2 h1)⟩, hK0⟩
       ·
        refine OI_eq [(0, pt v), (1, pt l), (2, nt who), (3, nt ref), (9, pt b1), (11, pt b16), (12, pt q38), (13, pt b66), (14, .bool ((GV.getC who ref s.cs).isSome)), (76, .bool true)] (by first | rfl | rw [hg83]) ?_
        refine OI_static 8 [(0, pt v), (1, pt l), (2, nt who), (3, nt ref), (9, pt b1), (11, pt b16), (12, pt q38), (13, pt b66), (14, .bool ((GV.getC who ref s.cs).isSome)), (76, .bool true), (77, pt v), (78, nt who), (81, pt b16)] (by kernel_rfl) ?_
        refine OI_cell 3 (.tmp 81) 0 (nt ((q16).track)) (some 82) (by kernel_rfl) (by kernel_rfl) hm57 (m := 1) (by kernel_rfl) rfl ?_
        refine OI_call { callee := (Callee.value (Operand.func 49)), args := #[(Operand.tmp 77), (Operand.tmp 78), (Operand.tmp 82)], argTypes := #[31, 3, 3] } 49 #[pt v, nt who, nt ((q16).track)] (some 83) (by kernel_rfl) (by kernel_rfl) (by kernel_rfl) (count_spec F40 v P39 s who ((q16).track) _ ho41) ?_
        rintro _ w201 ⟨rfl, hk202⟩
        refine ⟨_, rfl, ?_⟩
        have hsz203 := Keep.size hk202
        replace hb1 := hb1.keep hk202 (fun f => f)
        replace hm55 := hm55.keep hk202 (fun f => f)
        replace hm57 := hm57.keep hk202 (fun f => f)
        replace hm59 := hm59.keep hk202 (fun f => f)
        replace hb66_71 := hb66_71.keep hk202 (fun f => f)
        replace hl := Led.keep hl hk202 (fun _ _ f => f)
        replace hK0 := Keep.tr hK0 (Keep.ofNone hk202)
        replace ho41 := Vot.keep ho41 hk202 (fun _ _ f => f)
        refine OI_static 13 [(0, pt v), (1, pt l), (2, nt who), (3, nt ref), (9, pt b1), (11, pt b16), (12, pt q38), (13, pt b66), (14, .bool ((GV.getC who ref s.cs).isSome)), (73, .bool (decide ((((vrow s who ((q16).track)).length : Nat) : Int) ≥ 6)))] (by kernel_rfl) ?_
        refine OI_end rfl ?_
        refine X_then ?_
        refine V_if ((((vrow s who ((q16).track)).length : Nat) : Int) ≥ 6) (by kernel_rfl) (fun hc204 => ?_) (fun hc204 => ?_)
        ·
         refine V_seq ?_
         refine V_region ?_
         refine OI_static 1 [(10, nt 3)] (by kernel_rfl) ?_
         refine OI_end rfl ?_
         refine X_then ?_
         refine V_ret ?_
         refine X_ret_block ?_
         refine X_ret_then ?_
         have hE205 : voteE xs s who ref x = 3 := by unfold voteE; rw [if_neg (by rintro (h9 | h9); exact h9 hg8; exact h9 hc14)]; rw [hpa16]; dsimp only; rw [if_neg (fun h9 => h9 hc30)]; rw [if_neg (by rw [hd32]; decide)]; rw [if_neg hc81]; rw [if_pos ⟨(show (GV.getC who ref s.cs).isSome = false from by simpa using hg83), hc204⟩]
         exact X_return (nt 3) rfl ⟨by rw [hE205], ⟨F40, G, ⟨_, by rw [show voteS xs s who ref x = s from by unfold voteS; rw [hE205, if_neg (by decide)]]; exact ho41⟩, by rw [show voteC xs cs s who ref x = cs from by unfold voteC; rw [hE205, if_neg (by decide)]]; exact hl, rel53, hGr, dis54⟩, hK0⟩
        ·
         refine V_skip ?_
         refine X_block ?_
         refine X_then ?_
         refine V_seq ?_
         refine V_seq ?_
         refine V_region ?_
         refine OI_static 1 [(0, pt v), (1, pt l), (2, nt who), (3, nt ref), (9, pt b1), (11, pt b16), (12, pt q38), (13, pt b66), (86, .bool ((GV.getC who ref s.cs).isSome))] (by kernel_rfl) ?_
         refine OI_end rfl ?_
         refine X_then ?_
         refine V_eq [(0, pt v), (1, pt l), (2, nt who), (3, nt ref), (9, pt b1), (11, pt b16), (12, pt q38), (13, pt b66), (86, .bool false)] (by rw [(show (GV.getC who ref s.cs).isSome = false from by simpa using hg83)]) ?_
         refine V_false rfl ?_
         refine V_skip ?_
         refine X_then ?_
         refine V_seq ?_
         refine V_draws (acts [10, 11, 12, 15]) none_ [[5, 6, 7, 8, 9, 10, 11, 1, 2, 3, 4, 12, 0, 13, 14, 15]] (by kernel_rfl) (by repeat first | exact sure_body (by rintro _ _ ⟨h, _⟩; exact ⟨_, h⟩) | refine sure_then ?_ | refine sure_block ?_ | refine sure_join ?_) (by kernel_rfl) ?_
         intro w208 hk207 he209 L hL210
         have hsz211 := Keep.size hk207
         replace hb1 := hb1.keep hk207 (fun f => f)
         replace hm55 := hm55.keep hk207 (fun f => f)
         replace hm57 := hm57.keep hk207 (fun f => f)
         replace hm59 := hm59.keep hk207 (fun f => f)
         replace hb66_71 := hb66_71.keep hk207 (fun f => f)
         replace hl := Led.keep hl hk207 (fun _ _ f => f)
         replace hK0 := Keep.tr hK0 (Keep.ofNone hk207)
         replace ho41 := Vot.keep ho41 hk207 (fun _ _ f => f)
         have qhb1 := hb1
         have qhm55 := hm55
         have qhm57 := hm57
         have qhm59 := hm59
         have qhb66_71 := hb66_71
         have K212 : Keep none_ w208 w208 := Keep.refl _ _
         obtain rfl := List.mem_singleton.1 hL210
         refine GI_agg 23 (.tmp 9) 0 (Vt.cells x) (some 106) (by kernel_rfl) (by kernel_rfl) (by kernel_rfl) qhb1 (fun f => f) (m := 6) (by kernel_rfl) (take_all (Vt.len _)) (Vt.len _) ?_
         refine GI_static [9, 10, 11, 1, 2, 3, 4, 12, 0, 13, 14, 15] [(0, pt v), (1, pt l), (2, nt who), (3, nt ref), (9, pt b1), (11, pt b16), (106, .agg (Vt.cells x).toArray), (109, .pointer (some ⟨q38, 1, none⟩))] (by kernel_rfl) ?_
         refine GI_agg 54 (.tmp 109) 1 [nt (((s.rc who ((q16).track))).got.v), nt (((s.rc who ((q16).track))).got.c)] (some 110) (by kernel_rfl) (by kernel_rfl) (by kernel_rfl) qhm59 (fun f => f) (m := 2) (by kernel_rfl) rfl rfl ?_
         refine GI_call { callee := (Callee.value (Operand.func 57)), args := #[(Operand.tmp 106), (Operand.tmp 110)], argTypes := #[23, 54] } 57 #[.agg (Vt.cells x).toArray, .agg #[nt (((s.rc who ((q16).track))).got.v), nt (((s.rc who ((q16).track))).got.c)]] (some 111) (by kernel_rfl) (by kernel_rfl) (by kernel_rfl) (by kernel_rfl) (cvGain_spec x (((s.rc who ((q16).track))).got) _) ?_
         rintro _ w215 ⟨rfl, hk216⟩
         have K217 := K212.tr (Keep.ofNone hk216)
         refine ⟨_, rfl, K217, ?_⟩
         have hzK217 := Keep.size K217
         have hsz218 := Keep.size hk216
         replace hb1 := hb1.keep hk216 (fun f => f)
         replace hm55 := hm55.keep hk216 (fun f => f)
         replace hm57 := hm57.keep hk216 (fun f => f)
         replace hm59 := hm59.keep hk216 (fun f => f)
         replace hb66_71 := hb66_71.keep hk216 (fun f => f)
         replace hl := Led.keep hl hk216 (fun _ _ f => f)
         replace hK0 := Keep.tr hK0 (Keep.ofNone hk216)
         replace ho41 := Vot.keep ho41 hk216 (fun _ _ f => f)
         refine GI_slit (E := 43) (zv := .agg #[nt 0, nt 0, nt 0]) (sz := 3) (by_ := 24) 153 1 #[(0, (Operand.tmp 111))] [.agg (Tly.cells (gainT x (((s.rc who ((q16).track))).got))).toArray] (Tly.cells (gainT x (((s.rc who ((q16).track))).got))) (some 112) (by kernel_rfl) (by kernel_rfl) K217 (by kernel_rfl) (by kernel_rfl) (by omega) rfl (by omega) (by intro v hv; obtain rfl := List.mem_singleton.1 hv; show (Tly.cells (gainT x (((s.rc who ((q16).track))).got))).toArray.size = 3; simp [Tly.len]) (by kernel_rfl) (by show (Tly.cells (gainT x (((s.rc who ((q16).track))).got))).toArray.toList ++ [] = _; simp) ?_
         intro b219 w219 e219 hb219 k219 z219 K220
         have hsz221 := Keep.size k219
         replace hb1 := hb1.keep k219 (fun f => f)
         replace hm55 := hm55.keep k219 (fun f => f)
         replace hm57 := hm57.keep k219 (fun f => f)
         replace hm59 := hm59.keep k219 (fun f => f)
         replace hb66_71 := hb66_71.keep k219 (fun f => f)
         replace hl := Led.keep hl k219 (fun _ _ f => f)
         replace hK0 := Keep.tr hK0 (Keep.ofNone k219)
         replace ho41 := Vot.keep ho41 k219 (fun _ _ f => f)
         have hb219lt := hb219.lt
         refine GI_static [4, 12, 0, 13, 14, 15] [(0, pt v), (1, pt l), (2, nt who), (3, nt ref), (9, pt b1), (11, pt b16), (104, .pointer (some ⟨b16, 1, none⟩)), (112, .slice (some ⟨b219, 0, none⟩) 1 1)] (by kernel_rfl) ?_
         refine GI_agg 43 (.tmp 104) 1 [nt ((q16).t.a), nt ((q16).t.n), nt ((q16).t.s)] (some 105) (by kernel_rfl) (by kernel_rfl) (by kernel_rfl) qhm57 (fun f => f) (m := 3) (by kernel_rfl) rfl rfl ?_
         refine GI_call { callee := (Callee.value (Operand.func 58)), args := #[(Operand.tmp 105), (Operand.tmp 112)], argTypes := #[43, 153] } 58 #[.agg #[nt ((q16).t.a), nt ((q16).t.n), nt ((q16).t.s)], .slice (some ⟨b219, 0, none⟩) 1 1] (some 113) (by kernel_rfl) (by kernel_rfl) (by kernel_rfl) (by kernel_rfl) (cvAdd1 b219 (Tly.mk ((q16).t.a) ((q16).t.n) ((q16).t.s)) (gainT x (((s.rc who ((q16).track))).got)) _ _ hb219) ?_
         rintro _ w226 ⟨rfl, hk227⟩
         have K228 := K220.tr (Keep.ofNone hk227)
         refine ⟨_, rfl, K228, ?_⟩
         have hzK228 := Keep.size K228
         have hsz229 := Keep.size hk227
         replace hb1 := hb1.keep hk227 (fun f => f)
         replace hm55 := hm55.keep hk227 (fun f => f)
         replace hm57 := hm57.keep hk227 (fun f => f)
         replace hm59 := hm59.keep hk227 (fun f => f)
         replace hb66_71 := hb66_71.keep hk227 (fun f => f)
         replace hb219 := hb219.keep hk227 (fun f => f)
         replace hl := Led.keep hl hk227 (fun _ _ f => f)
         replace hK0 := Keep.tr hK0 (Keep.ofNone hk227)
         replace ho41 := Vot.keep ho41 hk227 (fun _ _ f => f)
         refine GI_static [15] [(0, pt v), (1, pt l), (2, nt who), (3, nt ref), (9, pt b1), (11, pt b16), (113, .agg (Tly.cells (addT (Tly.mk ((q16).t.a) ((q16).t.n) ((q16).t.s)) (gainT x (((s.rc who ((q16).track))).got)))).toArray), (115, .pointer (some ⟨b16, 1, none⟩))] (by kernel_rfl) ?_
         refine GI_final 15 (by kernel_rfl) (by kernel_rfl) ?_
         refine OI_set (m := 3) (kd := true) 43 (.tmp 115) (.tmp 113) 1 (.agg (Tly.cells (addT (Tly.mk ((q16).t.a) ((q16).t.n) ((q16).t.s)) (gainT x (((s.rc who ((q16).track))).got)))).toArray) (Tly.cells (addT (Tly.mk ((q16).t.a) ((q16).t.n) ((q16).t.s)) (gainT x (((s.rc who ((q16).track))).got)))) none (by kernel_rfl) (by kernel_rfl) (by kernel_rfl) hm57 (by kernel_rfl) rfl (Tly.len _) (Nat.le_of_ble_eq_true (by kernel_rfl)) (Tly.one _) ?_
         intro w230 hn233 hk231 hz232
         replace hn233 : Blk w230 b16 (PollS.cells { q16 with t := (addT (Tly.mk ((q16).t.a) ((q16).t.n) ((q16).t.s)) (gainT x (((s.rc who ((q16).track))).got))) }) 89 := hn233
         have hsz234 := Keep.size hk231
         replace hb1 := hb1.keep hk231 (by show ¬ (b1 = b16); omega)
         replace hm55 := hm55.keep hk231 (by show ¬ (v = b16); omega)
         replace hm59 := hm59.keep hk231 (by show ¬ (q38 = b16); omega)
         replace hb66_71 := hb66_71.keep hk231 (by show ¬ (b66 = b16); omega)
         replace hb219 := hb219.keep hk231 (by show ¬ (b219 = b16); omega)
         replace hl := Led.keep hl hk231 (fun q hq hs => (fun q h1 h2 => dis54 q h2 h1) q hq (by rw [show q = b16 from hs]; exact hF58))
         replace hK0 := Keep.fresh hK0 hk231 (fun i hi hs => by have hs : F40 i := (by rw [show i = b16 from hs]; exact hF58); rcases rel53 i hs with h | h; exact .inl h; (exfalso; omega))
         obtain ⟨tv236, htv236⟩ : ∃ t9 : Tly, t9 = (addT (Tly.mk ((q16).t.a) ((q16).t.n) ((q16).t.s)) (gainT x (((s.rc who ((q16).track))).got))) := ⟨_, rfl⟩
         rw [← htv236] at hn233
         have ho235 := Vot.setPoll ho41 hqb16w48 hps16 hk231 (show Blk _ _ (PollS.cells { q16 with t := tv236 }) _ from hn233)
         have hs237 : (s.setP i16 { q16 with t := tv236 }).ps[i16]? = some (some { q16 with t := tv236 }) := List.getElem?_set_self (List.getElem?_eq_some_iff.1 hps16).1
         have hb16lt := hn233.lt
         refine OI_end rfl ?_
         refine X_then ?_
         refine V_seq ?_
         refine V_draws (acts [7]) none_ [[0, 1, 2, 3, 4, 5, 6, 7]] (by kernel_rfl) (by repeat first | exact sure_body (by rintro _ _ ⟨h, _⟩; exact ⟨_, h⟩) | refine sure_then ?_ | refine sure_block ?_ | refine sure_join ?_) (by kernel_rfl) ?_
         intro w239 hk238 he240 L hL241
         have hsz242 := Keep.size hk238
         replace hb1 := hb1.keep hk238 (fun f => f)
         replace hm55 := hm55.keep hk238 (fun f => f)
         replace hm59 := hm59.keep hk238 (fun f => f)
         replace hb66_71 := hb66_71.keep hk238 (fun f => f)
         replace hb219 := hb219.keep hk238 (fun f => f)
         replace hn233 := hn233.keep hk238 (fun f => f)
         replace hl := Led.keep hl hk238 (fun _ _ f => f)
         replace hK0 := Keep.tr hK0 (Keep.ofNone hk238)
         replace ho235 := Vot.keep ho235 hk238 (fun _ _ f => f)
         have qhb1 := hb1
         have qhm55 := hm55
         have qhm59 := hm59
         have qhb66_71 := hb66_71
         have qhb219 := hb219
         have qhn233 := hn233
         have K243 : Keep none_ w239 w239 := Keep.refl _ _
         obtain rfl := List.mem_singleton.1 hL241
         refine GI_static [3, 4, 5, 6, 7] [(1, pt l), (2, nt who), (3, nt ref), (9, pt b1), (11, pt b16), (118, .pointer (some ⟨v, 12, none⟩))] (by kernel_rfl) ?_
         refine GI_cell 91 (.tmp 118) 12 (pt P39.gv) (some 119) (by kernel_rfl) (by kernel_rfl) (by kernel_rfl) qhm55 (fun f => f) (m := 1) (by kernel_rfl) (by rw [List.getElem?_append_right (by rw [List.length_map]; omega), List.length_map, hvlhm55]; rfl) ?_
         refine GI_static [6, 7] [(1, pt l), (2, nt who), (9, pt b1), (11, pt b16), (119, pt P39.gv), (120, nt who), (121, nt ref)] (by kernel_rfl) ?_
         refine GI_agg 23 (.tmp 9) 0 (Vt.cells x) (some 122) (by kernel_rfl) (by kernel_rfl) (by kernel_rfl) qhb1 (fun f => f) (m := 6) (by kernel_rfl) (take_all (Vt.len _)) (Vt.len _) ?_
         refine GI_final 7 (by kernel_rfl) (by kernel_rfl) ?_
         refine OI_call { callee := (Callee.value (Operand.func 59)), args := #[(Operand.tmp 119), (Operand.tmp 120), (Operand.tmp 121), (Operand.tmp 122)], argTypes := #[91, 3, 3, 23] } 59 #[pt P39.gv, nt who, nt ref, .agg (Vt.cells x).toArray] (some 123) (by kernel_rfl) (by kernel_rfl) (by kernel_rfl) (vset_spec F40 v P39 (s.setP i16 { q16 with t := tv236 }) who ref x _ ho235 (by omega) (by omega) hc14 (by rw [hpr16, Int.toNat_natCast]; exact ⟨_, hs237⟩)) ?_
         rintro _ w248 ⟨rfl, ⟨F250, ho251, hfr252⟩, hk249⟩
         refine ⟨_, rfl, ?_⟩
         have hsz253 := Keep.size hk249
         replace hb1 := hb1.keep hk249 (fun hs => by have h1 := own52 _ hs; have h2 := lt51 _ hs; omega)
         replace hb66_71 := hb66_71.keep hk249 (fun hs => by have h1 := own52 _ hs; have h2 := lt51 _ hs; omega)
         replace hb219 := hb219.keep hk249 (fun hs => by have h1 := own52 _ hs; have h2 := lt51 _ hs; omega)
         replace hl := Led.keep hl hk249 (fun q hq hs => dis54 q hs hq)
         replace hK0 := Keep.fresh hK0 hk249 (fun i hi hs => by rcases rel53 i hs with h | h; exact .inl h; (exfalso; omega))
         have own255 : ∀ q, F250 q → 0 ≤ q ∧ q ≠ b1 ∧ q ≠ b66 ∧ q ≠ b219 := fun q hq => by rcases hfr252 q hq with h | h; (have h1 := own52 q h; have h2 := lt51 q h; omega); omega
         have lt254 := Vot.lt ho251
         have rel256 : ∀ q, F250 q → F q ∨ w.heap.size ≤ q := fun q hq => by rcases hfr252 q hq with h | h; exact rel53 q h; exact .inr (by omega)
         have dis257 : ∀ q, F250 q → ¬ G q := fun q h1 h2 => by rcases hfr252 q h1 with h | h; exact dis54 q h h2; (have h4 := hGlt q h2; omega)
         obtain ⟨hvlhm258, hm258⟩ := Vot.vblk ho251
         have hF259 := Vot.at_ ho251
         have hvlt := hm258.lt
         have hlov := lt254 _ hF259
         have hov := own255 _ hF259
         obtain ⟨hm260, hF261⟩ := Vot.pollB ho251 hqb16w48 hs237
         have hb16lt := hm260.lt
         have hlob16 := lt254 _ hF261
         have hob16 := own255 _ hF261
         obtain ⟨hF263, hm262⟩ := Vot.recN ho251 hgc43 hd32
         have hq38lt := hm262.lt
         have hloq38 := lt254 _ hF263
         have hoq38 := own255 _ hF263
         have hneb16v : b16 ≠ v := Blk.ne hm260 hm258 (by decide)
         have hneq38v : q38 ≠ v := Blk.ne hm262 hm258 (by decide)
         have hneq38b16 : q38 ≠ b16 := Blk.ne hm262 hm260 (by decide)
         refine OI_end rfl ?_
         refine X_then ?_
         refine V_seq ?_
         refine V_draws (acts [7, 8]) none_ [[6, 7, 0, 1, 2, 3, 4, 5, 8]] (by kernel_rfl) (by repeat first | exact sure_body (by rintro _ _ ⟨h, _⟩; exact ⟨_, h⟩) | refine sure_then ?_ | refine sure_block ?_ | refine sure_join ?_) (by kernel_rfl) ?_
         intro w265 hk264 he266 L hL267
         have hsz268 := Keep.size hk264
         replace hb1 := hb1.keep hk264 (fun f => f)
         replace hb66_71 := hb66_71.keep hk264 (fun f => f)
         replace hb219 := hb219.keep hk264 (fun f => f)
         replace hm258 := hm258.keep hk264 (fun f => f)
         replace hm260 := hm260.keep hk264 (fun f => f)
         replace hm262 := hm262.keep hk264 (fun f => f)
         replace hl := Led.keep hl hk264 (fun _ _ f => f)
         replace hK0 := Keep.tr hK0 (Keep.ofNone hk264)
         replace ho251 := Vot.keep ho251 hk264 (fun _ _ f => f)
         have qhb1 := hb1
         have qhb66_71 := hb66_71
         have qhb219 := hb219
         have qhm258 := hm258
         have qhm260 := hm260
         have qhm262 := hm262
         have K269 : Keep none_ w265 w265 := Keep.refl _ _
         obtain rfl := List.mem_singleton.1 hL267
         refine GI_agg 23 (.tmp 9) 0 (Vt.cells x) (some 130) (by kernel_rfl) (by kernel_rfl) (by kernel_rfl) qhb1 (fun f => f) (m := 6) (by kernel_rfl) (take_all (Vt.len _)) (Vt.len _) ?_
         refine GI_call { callee := (Callee.value (Operand.func 55)), args := #[(Operand.tmp 130)], argTypes := #[23] } 55 #[.agg (Vt.cells x).toArray] (some 131) (by kernel_rfl) (by kernel_rfl) (by kernel_rfl) (by kernel_rfl) (cvCapital_spec x _) ?_
         rintro _ w272 ⟨rfl, hk273⟩
         have K274 := K269.tr (Keep.ofNone hk273)
         refine ⟨_, rfl, K274, ?_⟩
         have hzK274 := Keep.size K274
         have hsz275 := Keep.size hk273
         replace hb1 := hb1.keep hk273 (fun f => f)
         replace hb66_71 := hb66_71.keep hk273 (fun f => f)
         replace hb219 := hb219.keep hk273 (fun f => f)
         replace hm258 := hm258.keep hk273 (fun f => f)
         replace hm260 := hm260.keep hk273 (fun f => f)
         replace hm262 := hm262.keep hk273 (fun f => f)
         replace hl := Led.keep hl hk273 (fun _ _ f => f)
         replace hK0 := Keep.tr hK0 (Keep.ofNone hk273)
         replace ho251 := Vot.keep ho251 hk273 (fun _ _ f => f)
         refine GI_static [5, 8] [(124, pt l), (125, nt who), (128, pt b16), (131, nt (capI x))] (by kernel_rfl) ?_
         refine GI_cell 3 (.tmp 128) 0 (nt ((q16).track)) (some 129) (by kernel_rfl) (by kernel_rfl) (by kernel_rfl) qhm260 (fun f => f) (m := 1) (by kernel_rfl) rfl ?_
         refine GI_final 8 (by kernel_rfl) (by kernel_rfl) ?_
         refine OI_call { callee := (Callee.value (Operand.func 52)), args := #[(Operand.tmp 124), (Operand.tmp 125), (Operand.tmp 129), (Operand.tmp 131)], argTypes := #[30, 3, 3, 3] } 52 #[pt l, nt who, nt ((q16).track), nt (capI x)] (some 132) (by kernel_rfl) (by kernel_rfl) (by kernel_rfl) (raise_spec G l xs cs who ((q16).track) (capI x) _ hl hmax) ?_
         rintro _ w278 ⟨rfl, ⟨F280, ho281, hfr282⟩, hk279⟩
         refine ⟨_, rfl, ?_⟩
         have hsz283 := Keep.size hk279
         replace hb1 := hb1.keep hk279 (fun hs => by have h1 := hGo _ hs; have h2 := hGlt _ hs; omega)
         replace hb66_71 := hb66_71.keep hk279 (fun hs => by have h1 := hGo _ hs; have h2 := hGlt _ hs; omega)
         replace hb219 := hb219.keep hk279 (fun hs => by have h1 := hGo _ hs; have h2 := hGlt _ hs; omega)
         replace hK0 := Keep.fresh hK0 hk279 (fun i hi hs => by rcases hGr i hs with h | h; exact .inr h; (exfalso; omega))
         replace ho251 := Vot.keep ho251 hk279 (fun q hq hs => (fun q h1 h2 => dis257 q h2 h1) q hs hq)
         have own285 : ∀ q, F280 q → 0 ≤ q ∧ q ≠ b1 ∧ q ≠ b66 ∧ q ≠ b219 := fun q hq => by rcases hfr282 q hq with h | h; (have h1 := hGo q h; have h2 := hGlt q h; omega); omega
         have lt284 := Led.lt ho281
         have rel286 : ∀ q, F280 q → G q ∨ w.heap.size ≤ q := fun q hq => by rcases hfr282 q hq with h | h; exact hGr q h; exact .inr (by omega)
         have dis287 : ∀ q, F280 q → ¬ F250 q := fun q h1 h2 => by rcases hfr282 q h1 with h | h; exact (fun q h1 h2 => dis257 q h2 h1) q h h2; (have h4 := lt254 q h2; omega)
         obtain ⟨hvlhm288, hm288⟩ := Vot.vblk ho251
         have hF289 := Vot.at_ ho251
         have hvlt := hm288.lt
         have hlov := lt254 _ hF289
         have hov := own255 _ hF289
         obtain ⟨hm290, hF291⟩ := Vot.pollB ho251 hqb16w48 hs237
         have hb16lt := hm290.lt
         have hlob16 := lt254 _ hF291
         have hob16 := own255 _ hF291
         obtain ⟨hF293, hm292⟩ := Vot.recN ho251 hgc43 hd32
         have hq38lt := hm292.lt
         have hloq38 := lt254 _ hF293
         have hoq38 := own255 _ hF293
         have hneb16v : b16 ≠ v := Blk.ne hm290 hm288 (by decide)
         have hneq38v : q38 ≠ v := Blk.ne hm292 hm288 (by decide)
         have hneq38b16 : q38 ≠ b16 := Blk.ne hm292 hm290 (by decide)
         refine OI_end rfl ?_
         refine X_then ?_
         refine V_seq ?_
         refine V_region ?_
         refine OI_static 1 [(10, nt 0)] (by kernel_rfl) ?_
         refine OI_end rfl ?_
         refine X_then ?_
         refine V_ret ?_
         have hE294 : voteE xs s who ref x = 0 := by unfold voteE; rw [if_neg (by rintro (h9 | h9); exact h9 hg8; exact h9 hc14)]; rw [hpa16]; dsimp only; rw [if_neg (fun h9 => h9 hc30)]; rw [if_neg (by rw [hd32]; decide)]; rw [if_neg hc81]; rw [if_neg (fun h9 => hc204 h9.2)]
         have hVT : voteT s who ref x q16 = tv236 := by unfold voteT; rw [(show (GV.getC who ref s.cs).isSome = false from by simpa using hg83), htv236]; rfl
         exact X_return (nt 0) rfl ⟨by rw [hE294], ⟨F250, F280, ⟨_, by rw [show voteS xs s who ref x = ({ s.setP i16 { q16 with t := tv236 } with cs := GV.setC who ref x (s.setP i16 { q16 with t := tv236 }).cs }) from by unfold voteS; rw [hE294, if_pos rfl, hpa16]; dsimp only; rw [hVT, hpr16, Int.toNat_natCast]; first | rfl | (simp only [VS.setP_setP]; rfl)]; exact ho251⟩, by rw [show voteC xs cs s who ref x = raiseC cs who q16.track (capI x) from by unfold voteC; rw [hE294, if_pos rfl, hpa16]]; exact ho281, rel256, rel286, (fun q h1 h2 => dis287 q h2 h1)⟩, hK0⟩
     ·
      refine OI_call { callee := (Callee.value (Operand.func 48)), args := #[(Operand.tmp 43), (Operand.tmp 44), (Operand.tmp 48)], argTypes := #[31, 3, 3] } 48 #[pt v, nt who, nt ((q16).track)] (some 49) (by kernel_rfl) (by kernel_rfl) (by kernel_rfl) (record_spec F v P s who ((q16).track) _ h (by omega) (htr _ _ (by assumption))) ?_
      rintro _ w309 ⟨q299, P300, rfl, hgc304, hpp305, hgv306, hmn307, hdl308, ⟨F301, ho302, hfr303⟩, hk310⟩
      refine ⟨_, rfl, ?_⟩
      have hsz311 := Keep.size hk310
      replace hb1 := hb1.keep hk310 (fun hs => by have h1 := hFo _ hs; have h2 := hFlt _ hs; omega)
      replace hl := Led.keep hl hk310 (fun q hq hs => hdis q hs hq)
      replace hK0 := Keep.fresh hK0 hk310 (fun i hi hs => by rcases hFr i hs with h | h; exact .inl h; (exfalso; omega))
      have own313 : ∀ q, F301 q → 0 ≤ q ∧ q ≠ b1 := fun q hq => by rcases hfr303 q hq with h | h; (have h1 := hFo q h; have h2 := hFlt q h; omega); omega
      have lt312 := Vot.lt ho302
      have rel314 : ∀ q, F301 q → F q ∨ w.heap.size ≤ q := fun q hq => by rcases hfr303 q hq with h | h; exact hFr q h; exact .inr (by omega)
      have dis315 : ∀ q, F301 q → ¬ G q := fun q h1 h2 => by rcases hfr303 q h1 with h | h; exact hdis q h h2; (have h4 := hGlt q h2; omega)
      have hqb16w309 := (show P300.pp[i16]? = some (some ⟨b16, 0, none⟩) from by rw [hpp305]; exact hpp16)
      have hgq299lt := lt312 _ (Vot.at_ ho302)
      obtain ⟨hvlhm316, hm316⟩ := Vot.vblk ho302
      have hF317 := Vot.at_ ho302
      have hvlt := hm316.lt
      have hlov := lt312 _ hF317
      have hov := own313 _ hF317
      obtain ⟨hm318, hF319⟩ := Vot.pollB ho302 hqb16w309 hps16
      have hb16lt := hm318.lt
      have hlob16 := lt312 _ hF319
      have hob16 := own313 _ hF319
      obtain ⟨bd322, hF321, hF323, hm320, hm324⟩ := Vot.recD ho302 hgc304 hd32
      have hbd322lt := hm324.lt
      have hlobd322 := lt312 _ hF323
      have hobd322 := own313 _ hF323
      have hq299lt := hm320.lt
      have hloq299 := lt312 _ hF321
      have hoq299 := own313 _ hF321
      have hneb16v : b16 ≠ v := Blk.ne hm318 hm316 (by decide)
      have hneq299v : q299 ≠ v := Blk.ne hm320 hm316 (by decide)
      have hneq299b16 : q299 ≠ b16 := Blk.ne hm320 hm318 (by decide)
      have hnebd322v : bd322 ≠ v := Blk.ne hm324 hm316 (by decide)
      have hnebd322b16 : bd322 ≠ b16 := Blk.ne hm324 hm318 (by decide)
      have hnebd322q299 : bd322 ≠ q299 := Blk.ne hm324 hm320 (by decide)
      refine OI_static 8 [(0, pt v), (1, pt l), (2, nt who), (3, nt ref), (9, pt b1), (11, pt b16), (12, pt q299)] (by kernel_rfl) ?_
      refine OI_end rfl ?_
      refine X_then ?_
      refine V_seq ?_
      refine V_region ?_
      refine OI_static 3 [(0, pt v), (1, pt l), (2, nt who), (3, nt ref), (9, pt b1), (11, pt b16), (12, pt q299), (53, .pointer (some ⟨v, 12, none⟩))] (by kernel_rfl) ?_
      refine OI_cell 91 (.tmp 53) 12 (pt P300.gv) (some 54) (by kernel_rfl) (by kernel_rfl) hm316 (m := 1) (by kernel_rfl) (by rw [List.getElem?_append_right (by rw [List.length_map]; omega), List.length_map, hvlhm316]; rfl) ?_
      refine OI_static 6 [(0, pt v), (1, pt l), (2, nt who), (3, nt ref), (9, pt b1), (11, pt b16), (12, pt q299), (54, pt P300.gv), (55, nt who), (56, nt ref)] (by kernel_rfl) ?_
      refine OI_call { callee := (Callee.value (Operand.func 54)), args := #[(Operand.tmp 54), (Operand.tmp 55), (Operand.tmp 56)], argTypes := #[91, 3, 3] } 54 #[pt P300.gv, nt who, nt ref] (some 57) (by kernel_rfl) (by kernel_rfl) (by kernel_rfl) (vget_spec F301 v P300 s who ref _ ho302) ?_
      rintro _ w327 ⟨rfl, hk328⟩
      refine ⟨_, rfl, ?_⟩
      have hsz329 := Keep.size hk328
      replace hb1 := hb1.keep hk328 (fun f => f)
      replace hm316 := hm316.keep hk328 (fun f => f)
      replace hm318 := hm318.keep hk328 (fun f => f)
      replace hm324 := hm324.keep hk328 (fun f => f)
      replace hm320 := hm320.keep hk328 (fun f => f)
      replace hl := Led.keep hl hk328 (fun _ _ f => f)
      replace hK0 := Keep.tr hK0 (Keep.ofNone hk328)
      replace ho302 := Vot.keep ho302 hk328 (fun _ _ f => f)
      refine OI_static 10 [(0, pt v), (1, pt l), (2, nt who), (3, nt ref), (9, pt b1), (11, pt b16), (12, pt q299), (58, .agg (Vt.cells ((GV.getC who ref s.cs).getD Vt.zero)).toArray), (59, .bool ((GV.getC who ref s.cs).isSome))] (by kernel_rfl) ?_
      refine OI_alloc 23 (.agg #[nt 0, .bool false, nt 0, nt 0, nt 0, nt 0]) [nt 0, .bool false, nt 0, nt 0, nt 0, nt 0] (some 13) (by kernel_rfl) (by kernel_rfl) (by kernel_rfl) ?_
      intro b330 w330 e330 hb330 k330 z330
      have hsz331 := Keep.size k330
      replace hb1 := hb1.keep k330 (fun f => f)
      replace hm316 := hm316.keep k330 (fun f => f)
      replace hm318 := hm318.keep k330 (fun f => f)
      replace hm324 := hm324.keep k330 (fun f => f)
      replace hm320 := hm320.keep k330 (fun f => f)
      replace hl := Led.keep hl k330 (fun _ _ f => f)
      replace hK0 := Keep.tr hK0 (Keep.ofNone k330)
      replace ho302 := Vot.keep ho302 k330 (fun _ _ f => f)
      have hb330lt := hb330.lt
      refine OI_set (m := 6) (kd := true) 23 (.tmp 13) (.tmp 58) 0 (.agg (Vt.cells ((GV.getC who ref s.cs).getD Vt.zero)).toArray) (Vt.cells ((GV.getC who ref s.cs).getD Vt.zero)) none (by kernel_rfl) (by kernel_rfl) (by kernel_rfl) hb330 (by kernel_rfl) rfl (Vt.len _) (Nat.le_of_ble_eq_true (by kernel_rfl)) (Vt.one _) ?_
      intro w332 hb330_335 hk333 hz334
      replace hb330_335 : Blk w332 b330 (Vt.cells ((GV.getC who ref s.cs).getD Vt.zero)) 23 := (by rwa [over_whole (by rw [Vt.len]; rfl)] at hb330_335)
      have hsz336 := Keep.size hk333
      replace hb1 := hb1.keep hk333 (by show ¬ (_ = _); omega)
      replace hm316 := hm316.keep hk333 (by show ¬ (_ = _); omega)
      replace hm318 := hm318.keep hk333 (by show ¬ (_ = _); omega)
      replace hm324 := hm324.keep hk333 (by show ¬ (_ = _); omega)
      replace hm320 := hm320.keep hk333 (by show ¬ (_ = _); omega)
      replace hl := Led.keep hl hk333 (fun q hq hs => by have hs : q = b330 := hs; have g0 := hGo q hq; have g1 := hGlt q hq; omega)
      replace hK0 := Keep.fresh hK0 hk333 (by intro i hi hs; first | exact hs | exact Or.inl hs | exact Or.inr hs | (exfalso; have hs2 : i = b330 := hs; omega))
      replace ho302 := Vot.keep ho302 hk333 (fun q hq hs => by have hs : q = b330 := hs; have g0 := own313 q hq; have g1 := lt312 q hq; omega)
      refine OI_static 13 [(0, pt v), (1, pt l), (2, nt who), (3, nt ref), (9, pt b1), (11, pt b16), (12, pt q299), (13, pt b330), (14, .bool ((GV.getC who ref s.cs).isSome))] (by kernel_rfl) ?_
      refine OI_end rfl ?_
      refine X_then ?_
      refine V_seq ?_
      refine V_block ?_
      refine V_seq ?_
      refine V_region ?_
      refine OI_static 3 [(0, pt v), (1, pt l), (2, nt who), (3, nt ref), (9, pt b1), (11, pt b16), (12, pt q299), (13, pt b330), (14, .bool ((GV.getC who ref s.cs).isSome)), (63, pt q299)] (by kernel_rfl) ?_
      refine OI_cell 97 (.tmp 63) 0 (pt bd322) (some 64) (by kernel_rfl) (by kernel_rfl) hm320 (m := 1) (by kernel_rfl) rfl ?_
      refine OI_static 6 [(0, pt v), (1, pt l), (2, nt who), (3, nt ref), (9, pt b1), (11, pt b16), (12, pt q299), (13, pt b330), (14, .bool ((GV.getC who ref s.cs).isSome)), (60, .bool true)] (by kernel_rfl) ?_
      refine OI_end rfl ?_
      refine X_then ?_
      refine V_true rfl ?_
      refine V_seq ?_
      refine V_region ?_
      refine OI_static 1 [(10, nt 5)] (by kernel_rfl) ?_
      refine OI_end rfl ?_
      refine X_then ?_
      refine V_ret ?_
      refine X_ret_block ?_
      refine X_ret_then ?_
      have hE337 : voteE xs s who ref x = 5 := by unfold voteE; rw [if_neg (by rintro (h9 | h9); exact h9 hg8; exact h9 hc14)]; rw [hpa16]; dsimp only; rw [if_neg (fun h9 => h9 hc30)]; rw [if_pos (by rw [hd32]; rfl)]
      exact X_return (nt 5) rfl ⟨by rw [hE337], ⟨F301, G, ⟨_, by rw [show voteS xs s who ref x = s from by unfold voteS; rw [hE337, if_neg (by decide)]]; exact ho302⟩, by rw [show voteC xs cs s who ref x = cs from by unfold voteC; rw [hE337, if_neg (by decide)]]; exact hl, rel314, hGr, dis315⟩, hK0⟩
 ·
  refine OI_eq [(0, pt v), (1, pt l), (2, nt who), (3, nt ref), (9, pt b1), (26, .bool true)] (by first | simp [hg8] | rfl) ?_
  refine OI_static 16 [(0, pt v), (1, pt l), (2, nt who), (3, nt ref), (9, pt b1), (30, .bool true)] (by kernel_rfl) ?_
  refine OI_end rfl ?_
  refine X_then ?_
  refine V_true rfl ?_
  refine V_seq ?_
  refine V_region ?_
  refine OI_static 1 [(10, nt 1)] (by kernel_rfl) ?_
  refine OI_end rfl ?_
  refine X_then ?_
  refine V_ret ?_
  refine X_ret_then ?_
  have hE338 : voteE xs s who ref x = 1 := by unfold voteE; rw [if_pos (.inl hg8)]
  exact X_return (nt 1) rfl ⟨by rw [hE338], ⟨F, G, ⟨_, by rw [show voteS xs s who ref x = s from by unfold voteS; rw [hE338, if_neg (by decide)]]; exact h⟩, by rw [show voteC xs cs s who ref x = cs from by unfold voteC; rw [hE338, if_neg (by decide)]]; exact hl, hFr, hGr, hdis⟩, hK0⟩
end Go.Al


namespace Go.Al
open Go Go.RowKit Go.Proofs
def unvE (s : VS) (who ref : Int) : Int := if ¬ (0 ≤ who ∧ who ≤ 9) then 1 else match pollAt s ref with
  | none => 4
  | some _ => if (GV.getC who ref s.cs).isSome = true then 0 else 4
def unvS (s : VS) (who ref now : Int) : VS := if unvE s who ref = 0 then (match pollAt s ref with
  | none => s
  | some q => if q.state = 0 then ({ s with cs := GV.delC who ref s.cs } : VS).setP ref.toNat { q with t := subT q.t (gainT ((GV.getC who ref s.cs).getD Vt.zero) (s.rc who q.track).got) }
    else if wonV ((GV.getC who ref s.cs).getD Vt.zero) q.state = true then ({ s with cs := GV.delC who ref s.cs } : VS).setR who q.track (joinR (s.rc who q.track) (w64 (q.stop + cvPeriod ((GV.getC who ref s.cs).getD Vt.zero).level 8)) ((GV.getC who ref s.cs).getD Vt.zero).a now)
    else { s with cs := GV.delC who ref s.cs }) else s
theorem lev_ok {s : VS} (hi : s.Inv) {who ref st : Int} (h : (GV.getC who ref s.cs).isSome = true) (hw : wonV ((GV.getC who ref s.cs).getD Vt.zero) st = true) : 0 ≤ ((GV.getC who ref s.cs).getD Vt.zero).level ∧ ((GV.getC who ref s.cs).getD Vt.zero).level ≤ 6 := by
  cases hg : GV.getC who ref s.cs with
  | none => rw [hg] at h; cases h
  | some y =>
    rw [hg] at hw
    show 0 ≤ y.level ∧ y.level ≤ 6
    obtain ⟨c, hc, _, _, hv⟩ := GV.getC_mem hg
    obtain ⟨_, _, hok, _⟩ := hi.votes c hc
    rw [hv] at hok
    have hk : y.kind = 1 := by
      unfold wonV at hw
      simp only [Bool.and_eq_true, decide_eq_true_eq] at hw
      exact hw.1
    unfold okV at hok
    omega
def delE (xs : List Acc) (s : VS) (who t to level n : Int) : Int := if ¬ (0 ≤ who ∧ who ≤ 9) ∨ ¬ (0 ≤ to ∧ to ≤ 9) ∨ ¬ (0 ≤ t ∧ t ≤ 3) ∨ ¬ (0 ≤ level ∧ level ≤ 6) ∨ ¬ (0 ≤ n ∧ n ≤ 1073741824) ∨ ¬ ¬ who = to then 1
  else if (s.rc who t).d.isSome = true then 5 else if (((vrow s who t).length : Nat) : Int) > 0 then 9 else if n > (acct xs who).free then 6 else 0
def delS (xs : List Acc) (s : VS) (who t to level n : Int) : VS := if delE xs s who t to level n = 0 then getsS (s.setR who t { s.rc who t with d := some (DelS.mk to level n) }) to t (Wgt.mk (cvVotes n level) n) else s
def delC2 (xs : List Acc) (cs : List Ci) (s : VS) (who t to level n : Int) : List Ci := if delE xs s who t to level n = 0 then raiseC cs who t n else cs
def unlE (who t : Int) : Int := if ¬ (0 ≤ who ∧ who ≤ 9) ∨ ¬ (0 ≤ t ∧ t ≤ 3) then 1 else 0
def unlR (r : RecS) (now : Int) : RecS := if r.till ≤ now then { r with till := 0, n := 0 } else r
def mostL (m : Int) (l : List (Int × Vt)) : Int := l.foldl (fun m c => if capI c.2 > m then capI c.2 else m) m
def unlM (s : VS) (who t now : Int) : Int := mostL (unlR (s.rc who t) now).n (vrow s who t)
def unlN (s : VS) (who t now : Int) : Int := match (s.rc who t).d with
  | none => unlM s who t now
  | some d => if d.n > unlM s who t now then d.n else unlM s who t now
def unlS (s : VS) (who t now : Int) : VS := if unlE who t = 0 ∧ (s.rc who t).till ≤ now then s.setR who t (unlR (s.rc who t) now) else s
def unlC (cs : List Ci) (s : VS) (who t now : Int) : List Ci := if unlE who t = 0 then lockC cs who t (unlN s who t now) else cs
theorem mostL_step {m : Int} {l : List (Int × Vt)} {k : Nat} {c : Int × Vt} (h : l[k]? = some c) : mostL m (l.take (k + 1)) = if capI c.2 > mostL m (l.take k) then capI c.2 else mostL m (l.take k) := by
  obtain ⟨h1, rfl⟩ := List.getElem?_eq_some_iff.1 h
  unfold mostL
  rw [List.take_succ_eq_append_getElem h1, List.foldl_append]; rfl
theorem VS.setR_setR (s : VS) (a t : Int) (x y : RecS) : (s.setR a t x).setR a t y = s.setR a t y := by
  unfold VS.setR
  congr 1
  funext u v
  unfold updR
  split
  · rfl
  · rename_i h; show (if u = a ∧ v = t then x else s.rc u v) = _; rw [if_neg h]
end Go.Al


namespace Go.Al
open Go Go.RowKit Go.Proofs
set_option maxRecDepth 10000 in
set_option maxHeartbeats 1000000 in
theorem delegate_at (F G : Nat → Prop) (v l : Nat) (P : VP) (s : VS) (xs : List Acc) (cs : List Ci) (who t to level n : Int) (w : World) (h : Vot F w v P s) (hl : Led G w l xs cs) (hdis : ∀ q, F q → ¬ G q) (hmax : cs.length < 100000) : Calls Tryz.prog 17 #[.pointer (some ⟨v, 0, none⟩), .pointer (some ⟨l, 0, none⟩), .int .i64 who, .int .i64 t, .int .i64 to, .int .i64 level, .int .i64 n] w fun e w' => e = .returned (.int .i64 (delE xs s who t to level n)) ∧ (∃ F' G', VotE F' w' v (delS xs s who t to level n) ∧ Led G' w' l xs (delC2 xs cs s who t to level n) ∧ (∀ q, F' q → F q ∨ w.heap.size ≤ q) ∧ (∀ q, G' q → G q ∨ w.heap.size ≤ q) ∧ (∀ q, F' q → ¬ G' q)) ∧ Keep (fun q => F q ∨ G q) w w' := by
 have hFlt := Vot.lt h
 have hvlt := hFlt _ (Vot.at_ h)
 have hFo : ∀ q, F q → 0 ≤ q := fun q _ => Nat.zero_le q
 have hFr : ∀ q, F q → F q ∨ w.heap.size ≤ q := fun _ h => .inl h
 have hGlt := Led.lt hl
 have hllt := hGlt _ (Led.at_ hl)
 have hGo : ∀ q, G q → 0 ≤ q := fun q _ => Nat.zero_le q
 have hGr : ∀ q, G q → G q ∨ w.heap.size ≤ q := fun _ h => .inl h
 have hK0 : Keep (fun q => F q ∨ G q) w w := Keep.refl _ _
 have hzhK0 := Keep.size hK0
 refine enterV Tryz.func17 rfl [pt v, pt l, nt who, nt t, nt to, nt level, nt n] 96 rfl rfl rfl ?_
 refine V_pick [(0, pt v), (1, pt l), (2, nt who), (3, nt t), (4, nt to), (5, nt level), (6, nt n)] rfl ?_
 refine V_seq ?_
 refine V_region ?_
 refine OI_static 1 [(0, pt v), (1, pt l), (2, nt who), (3, nt t), (4, nt to), (5, nt level), (6, nt n)] (by kernel_rfl) ?_
 refine OI_end rfl ?_
 refine X_then ?_
 refine V_seq ?_
 refine V_seq ?_
 refine V_region ?_
 refine OI_static 8 [(0, pt v), (1, pt l), (2, nt who), (3, nt t), (4, nt to), (5, nt level), (6, nt n), (22, .bool false), (23, nt who)] (by kernel_rfl) ?_
 refine OI_call { callee := (Callee.value (Operand.func 47)), args := #[(Operand.tmp 23)], argTypes := #[3] } 47 #[nt who] (some 24) (by kernel_rfl) (by kernel_rfl) (by kernel_rfl) (isAcc_spec who _) ?_
 rintro _ w ⟨rfl, rfl⟩
 refine ⟨_, rfl, ?_⟩
 refine OI_static 12 [(0, pt v), (1, pt l), (2, nt who), (3, nt t), (4, nt to), (5, nt level), (6, nt n), (27, .bool (!(decide (0 ≤ who ∧ who ≤ 9))))] (by kernel_rfl) ?_
 by_cases hg6 : 0 ≤ who ∧ who ≤ 9
 ·
  refine OI_eq [(0, pt v), (1, pt l), (2, nt who), (3, nt t), (4, nt to), (5, nt level), (6, nt n), (27, .bool false)] (by first | simp [hg6] | rfl) ?_
  refine OI_static 13 [(0, pt v), (1, pt l), (2, nt who), (3, nt t), (4, nt to), (5, nt level), (6, nt n), (27, .bool false), (28, nt to)] (by kernel_rfl) ?_
  refine OI_call { callee := (Callee.value (Operand.func 47)), args := #[(Operand.tmp 28)], argTypes := #[3] } 47 #[nt to] (some 29) (by kernel_rfl) (by kernel_rfl) (by kernel_rfl) (isAcc_spec to _) ?_
  rintro _ w ⟨rfl, rfl⟩
  refine ⟨_, rfl, ?_⟩
  refine OI_static 17 [(0, pt v), (1, pt l), (2, nt who), (3, nt t), (4, nt to), (5, nt level), (6, nt n), (32, .bool (!(decide (0 ≤ to ∧ to ≤ 9))))] (by kernel_rfl) ?_
  by_cases hg12 : 0 ≤ to ∧ to ≤ 9
  ·
   refine OI_eq [(0, pt v), (1, pt l), (2, nt who), (3, nt t), (4, nt to), (5, nt level), (6, nt n), (32, .bool false)] (by first | simp [hg12] | rfl) ?_
   refine OI_static 18 [(0, pt v), (1, pt l), (2, nt who), (3, nt t), (4, nt to), (5, nt level), (6, nt n), (32, .bool false), (33, nt t)] (by kernel_rfl) ?_
   refine OI_call { callee := (Callee.value (Operand.func 45)), args := #[(Operand.tmp 33)], argTypes := #[3] } 45 #[nt t] (some 34) (by kernel_rfl) (by kernel_rfl) (by kernel_rfl) (isTrk_spec t _) ?_
   rintro _ w ⟨rfl, rfl⟩
   refine ⟨_, rfl, ?_⟩
   refine OI_static 22 [(0, pt v), (1, pt l), (2, nt who), (3, nt t), (4, nt to), (5, nt level), (6, nt n), (37, .bool (!(decide (0 ≤ t ∧ t ≤ 3))))] (by kernel_rfl) ?_
   by_cases hg18 : 0 ≤ t ∧ t ≤ 3
   ·
    refine OI_eq [(0, pt v), (1, pt l), (2, nt who), (3, nt t), (4, nt to), (5, nt level), (6, nt n), (37, .bool false)] (by first | simp [hg18] | rfl) ?_
    refine OI_static 23 [(0, pt v), (1, pt l), (2, nt who), (3, nt t), (4, nt to), (5, nt level), (6, nt n), (37, .bool false), (38, nt level)] (by kernel_rfl) ?_
    refine OI_call { callee := (Callee.value (Operand.func 44)), args := #[(Operand.tmp 38), (Operand.const (Value.int IntKind.i64 0)), (Operand.const (Value.int IntKind.i64 6))], argTypes := #[3, 3, 3] } 44 #[nt level, nt 0, nt 6] (some 39) (by kernel_rfl) (by kernel_rfl) (by kernel_rfl) (vIn_spec level 0 6 _) ?_
    rintro _ w ⟨rfl, rfl⟩
    refine ⟨_, rfl, ?_⟩
    refine OI_static 27 [(0, pt v), (1, pt l), (2, nt who), (3, nt t), (4, nt to), (5, nt level), (6, nt n), (42, .bool (!(decide ((0 : Int) ≤ level ∧ level ≤ 6))))] (by kernel_rfl) ?_
    by_cases hg24 : (0 : Int) ≤ level ∧ level ≤ 6
    ·
     refine OI_eq [(0, pt v), (1, pt l), (2, nt who), (3, nt t), (4, nt to), (5, nt level), (6, nt n), (42, .bool false)] (by first | simp [hg24] | rfl) ?_
     refine OI_static 28 [(0, pt v), (1, pt l), (2, nt who), (3, nt t), (4, nt to), (5, nt level), (6, nt n), (42, .bool false), (43, nt n)] (by kernel_rfl) ?_
     refine OI_call { callee := (Callee.value (Operand.func 44)), args := #[(Operand.tmp 43), (Operand.const (Value.int IntKind.i64 0)), (Operand.const (Value.int IntKind.i64 1073741824))], argTypes := #[3, 3, 3] } 44 #[nt n, nt 0, nt 1073741824] (some 44) (by kernel_rfl) (by kernel_rfl) (by kernel_rfl) (vIn_spec n 0 1073741824 _) ?_
     rintro _ w ⟨rfl, rfl⟩
     refine ⟨_, rfl, ?_⟩
     refine OI_static 32 [(0, pt v), (1, pt l), (2, nt who), (3, nt t), (4, nt to), (5, nt level), (6, nt n), (47, .bool (!(decide ((0 : Int) ≤ n ∧ n ≤ 1073741824))))] (by kernel_rfl) ?_
     by_cases hg30 : (0 : Int) ≤ n ∧ n ≤ 1073741824
     ·
      refine OI_eq [(0, pt v), (1, pt l), (2, nt who), (3, nt t), (4, nt to), (5, nt level), (6, nt n), (47, .bool false)] (by first | simp [hg30] | rfl) ?_
      refine OI_static 36 [(0, pt v), (1, pt l), (2, nt who), (3, nt t), (4, nt to), (5, nt level), (6, nt n), (51, .bool (decide (who = to)))] (by kernel_rfl) ?_
      refine OI_end rfl ?_
      refine X_then ?_
      refine V_if (who = to) (by kernel_rfl) (fun hc31 => ?_) (fun hc31 => ?_)
      ·
       refine V_seq ?_
       refine V_region ?_
       refine OI_static 1 [(14, nt 1)] (by kernel_rfl) ?_
       refine OI_end rfl ?_
       refine X_then ?_
       refine V_ret ?_
       refine X_ret_then ?_
       have hE32 : delE xs s who t to level n = 1 := by unfold delE; rw [if_pos (.inr (.inr (.inr (.inr (.inr ((fun h9 => h9 hc31)))))))]
       exact X_return (nt 1) rfl ⟨by rw [hE32], ⟨F, G, ⟨_, by rw [show delS xs s who t to level n = s from by unfold delS; rw [hE32, if_neg (by decide)]]; exact h⟩, by rw [show delC2 xs cs s who t to level n = cs from by unfold delC2; rw [hE32, if_neg (by decide)]]; exact hl, hFr, hGr, hdis⟩, hK0⟩
      ·
       refine V_skip ?_
       refine X_then ?_
       refine V_seq ?_
       refine V_region ?_
       refine OI_static 3 [(0, pt v), (1, pt l), (2, nt who), (3, nt t), (4, nt to), (5, nt level), (6, nt n), (52, pt v), (53, nt who), (54, nt t)] (by kernel_rfl) ?_
       rcases hd33 : (s.rc who t).d with _ | d34
       ·
        refine OI_call { callee := (Callee.value (Operand.func 48)), args := #[(Operand.tmp 52), (Operand.tmp 53), (Operand.tmp 54)], argTypes := #[31, 3, 3] } 48 #[pt v, nt who, nt t] (some 55) (by kernel_rfl) (by kernel_rfl) (by kernel_rfl) (record_spec F v P s who t _ h (by omega) (by omega)) ?_
        rintro _ w49 ⟨q39, P40, rfl, hgc44, hpp45, hgv46, hmn47, hdl48, ⟨F41, ho42, hfr43⟩, hk50⟩
        refine ⟨_, rfl, ?_⟩
        have hsz51 := Keep.size hk50
        replace hl := Led.keep hl hk50 (fun q hq hs => hdis q hs hq)
        replace hK0 := Keep.fresh hK0 hk50 (fun i hi hs => by rcases hFr i hs with h | h; exact .inl h; (exfalso; omega))
        have own53 : ∀ q, F41 q → 0 ≤ q := fun q hq => by rcases hfr43 q hq with h | h; (have h1 := hFo q h; have h2 := hFlt q h; omega); omega
        have lt52 := Vot.lt ho42
        have rel54 : ∀ q, F41 q → F q ∨ w.heap.size ≤ q := fun q hq => by rcases hfr43 q hq with h | h; exact hFr q h; exact .inr (by omega)
        have dis55 : ∀ q, F41 q → ¬ G q := fun q h1 h2 => by rcases hfr43 q h1 with h | h; exact hdis q h h2; (have h4 := hGlt q h2; omega)
        have hgq39lt := lt52 _ (Vot.at_ ho42)
        obtain ⟨hF57, hm56⟩ := Vot.recN ho42 hgc44 hd33
        have hq39lt := hm56.lt
        have hloq39 := lt52 _ hF57
        have hoq39 := own53 _ hF57
        refine OI_static 5 [(0, pt v), (1, pt l), (2, nt who), (3, nt t), (4, nt to), (5, nt level), (6, nt n), (15, pt q39)] (by kernel_rfl) ?_
        refine OI_end rfl ?_
        refine X_then ?_
        refine V_seq ?_
        refine V_block ?_
        refine V_seq ?_
        refine V_region ?_
        refine OI_static 3 [(0, pt v), (1, pt l), (2, nt who), (3, nt t), (4, nt to), (5, nt level), (6, nt n), (15, pt q39), (59, pt q39)] (by kernel_rfl) ?_
        refine OI_cell 97 (.tmp 59) 0 (.pointer none) (some 60) (by kernel_rfl) (by kernel_rfl) hm56 (m := 1) (by kernel_rfl) rfl ?_
        refine OI_static 6 [(0, pt v), (1, pt l), (2, nt who), (3, nt t), (4, nt to), (5, nt level), (6, nt n), (15, pt q39), (56, .bool false)] (by kernel_rfl) ?_
        refine OI_end rfl ?_
        refine X_then ?_
        refine V_false rfl ?_
        refine V_seq ?_
        refine V_region ?_
        refine OI_static 3 [(0, pt v), (1, pt l), (2, nt who), (3, nt t), (4, nt to), (5, nt level), (6, nt n), (15, pt q39), (63, pt v), (64, nt who), (65, nt t)] (by kernel_rfl) ?_
        refine OI_call { callee := (Callee.value (Operand.func 49)), args := #[(Operand.tmp 63), (Operand.tmp 64), (Operand.tmp 65)], argTypes := #[31, 3, 3] } 49 #[pt v, nt who, nt t] (some 66) (by kernel_rfl) (by kernel_rfl) (by kernel_rfl) (count_spec F41 v P40 s who t _ ho42) ?_
        rintro _ w60 ⟨rfl, hk61⟩
        refine ⟨_, rfl, ?_⟩
        have hsz62 := Keep.size hk61
        replace hm56 := hm56.keep hk61 (fun f => f)
        replace hl := Led.keep hl hk61 (fun _ _ f => f)
        replace hK0 := Keep.tr hK0 (Keep.ofNone hk61)
        replace ho42 := Vot.keep ho42 hk61 (fun _ _ f => f)
        refine OI_static 6 [(0, pt v), (1, pt l), (2, nt who), (3, nt t), (4, nt to), (5, nt level), (6, nt n), (15, pt q39), (62, .bool (decide ((((vrow s who t).length : Nat) : Int) > 0)))] (by kernel_rfl) ?_
        refine OI_end rfl ?_
        refine X_then ?_
        refine V_if ((((vrow s who t).length : Nat) : Int) > 0) (by kernel_rfl) (fun hc63 => ?_) (fun hc63 => ?_)
        ·
         refine V_seq ?_
         refine V_region ?_
         refine OI_static 1 [(14, nt 9)] (by kernel_rfl) ?_
         refine OI_end rfl ?_
         refine X_then ?_
         refine V_ret ?_
         refine X_ret_block ?_
         refine X_ret_then ?_
         have hE64 : delE xs s who t to level n = 9 := by unfold delE; rw [if_neg (by rintro (h9 | h9 | h9 | h9 | h9 | h9); exact h9 hg6; exact h9 hg12; exact h9 hg18; exact h9 hg24; exact h9 hg30; exact h9 hc31)]; rw [if_neg (by rw [hd33]; decide)]; rw [if_pos hc63]
         exact X_return (nt 9) rfl ⟨by rw [hE64], ⟨F41, G, ⟨_, by rw [show delS xs s who t to level n = s from by unfold delS; rw [hE64, if_neg (by decide)]]; exact ho42⟩, by rw [show delC2 xs cs s who t to level n = cs from by unfold delC2; rw [hE64, if_neg (by decide)]]; exact hl, rel54, hGr, dis55⟩, hK0⟩
        ·
         refine V_seq ?_
         refine V_region ?_
         refine OI_static 3 [(0, pt v), (1, pt l), (2, nt who), (3, nt t), (4, nt to), (5, nt level), (6, nt n), (15, pt q39), (69, nt n), (70, pt l), (71, nt who)] (by kernel_rfl) ?_
         refine OI_call { callee := (Callee.value (Operand.func 38)), args := #[(Operand.tmp 70), (Operand.tmp 71)], argTypes := #[30, 3] } 38 #[pt l, nt who] (some 72) (by kernel_rfl) (by kernel_rfl) (by kernel_rfl) (free_spec G l xs cs who _ hl) ?_
         rintro _ w65 ⟨rfl, hk66⟩
         refine ⟨_, rfl, ?_⟩
         have hsz67 := Keep.size hk66
         replace hm56 := hm56.keep hk66 (fun f => f)
         replace hl := Led.keep hl hk66 (fun _ _ f => f)
         replace hK0 := Keep.tr hK0 (Keep.ofNone hk66)
         replace ho42 := Vot.keep ho42 hk66 (fun _ _ f => f)
         refine OI_static 6 [(0, pt v), (1, pt l), (2, nt who), (3, nt t), (4, nt to), (5, nt level), (6, nt n), (15, pt q39), (68, .bool (decide (n > (acct xs who).free)))] (by kernel_rfl) ?_
         refine OI_end rfl ?_
         refine X_then ?_
         refine V_if (n > (acct xs who).free) (by kernel_rfl) (fun hc68 => ?_) (fun hc68 => ?_)
         ·
          refine V_seq ?_
          refine V_region ?_
          refine OI_static 1 [(14, nt 6)] (by kernel_rfl) ?_
          refine OI_end rfl ?_
          refine X_then ?_
          refine V_ret ?_
          refine X_ret_block ?_
          refine X_ret_then ?_
          have hE69 : delE xs s who t to level n = 6 := by unfold delE; rw [if_neg (by rintro (h9 | h9 | h9 | h9 | h9 | h9); exact h9 hg6; exact h9 hg12; exact h9 hg18; exact h9 hg24; exact h9 hg30; exact h9 hc31)]; rw [if_neg (by rw [hd33]; decide)]; rw [if_neg hc63]; rw [if_pos hc68]
          exact X_return (nt 6) rfl ⟨by rw [hE69], ⟨F41, G, ⟨_, by rw [show delS xs s who t to level n = s from by unfold delS; rw [hE69, if_neg (by decide)]]; exact ho42⟩, by rw [show delC2 xs cs s who t to level n = cs from by unfold delC2; rw [hE69, if_neg (by decide)]]; exact hl, rel54, hGr, dis55⟩, hK0⟩
         ·
          refine V_skip ?_
          refine X_block ?_
          refine X_then ?_
          refine V_seq ?_
          refine V_region ?_
          refine OI_static 5 [(0, pt v), (1, pt l), (2, nt who), (3, nt t), (4, nt to), (5, nt level), (6, nt n), (74, pt q39), (78, .agg #[nt to, nt level, nt n])] (by kernel_rfl) ?_
          refine OI_box 101 (.tmp 78) (.agg #[nt to, nt level, nt n]) [nt to, nt level, nt n] (some 79) (by kernel_rfl) (by kernel_rfl) (by kernel_rfl) ?_
          intro b70 w70 e70 hb70 k70 z70
          have hsz71 := Keep.size k70
          replace hm56 := hm56.keep k70 (fun f => f)
          replace hl := Led.keep hl k70 (fun _ _ f => f)
          replace hK0 := Keep.tr hK0 (Keep.ofNone k70)
          replace ho42 := Vot.keep ho42 k70 (fun _ _ f => f)
          have hb70lt := hb70.lt
          refine OI_static 8 [(0, pt v), (1, pt l), (2, nt who), (3, nt t), (4, nt to), (5, nt level), (6, nt n), (79, pt b70), (81, pt q39)] (by kernel_rfl) ?_
          have hF076 : ¬ F41 b70 := fun hh => by have h9 := lt52 _ hh; omega
          refine OI_set (m := 1) (kd := false) 97 (.tmp 81) (.tmp 79) 0 (pt b70) [pt b70] none (by kernel_rfl) (by kernel_rfl) (by kernel_rfl) hm56 (by kernel_rfl) (by kernel_rfl) (by kernel_rfl) (Nat.le_of_ble_eq_true (by kernel_rfl)) (by simp [Value.oneCell']) ?_
          intro w72 hn75 hk73 hz74
          replace hn75 : Blk w72 q39 [pt b70, nt (((s.rc who t)).got.v), nt (((s.rc who t)).got.c), nt (((s.rc who t)).till), nt (((s.rc who t)).n)] 99 := hn75
          have hsz77 := Keep.size hk73
          replace hl := Led.keep hl hk73 (fun q hq hs => (fun q h1 h2 => dis55 q h2 h1) q hq (by rw [show q = q39 from hs]; exact hF57))
          replace hK0 := Keep.fresh hK0 hk73 (fun i hi hs => by have hs : F41 i := (by rw [show i = q39 from hs]; exact hF57); rcases rel54 i hs with h | h; exact .inl h; (exfalso; omega))
          obtain ⟨F79, ho78, hfd80⟩ := Vot.setDelE (a := who) (t := t) (r' := { (s.rc who t) with d := some (DelS.mk to level n) }) (d := (DelS.mk to level n)) ho42 hgc44 hm56 hb70 hF076 hk73 (show Blk _ _ (RecS.cells (some ⟨b70, 0, none⟩) { (s.rc who t) with d := some (DelS.mk to level n) }) _ from hn75) rfl (by intro d hd; simp only [Option.some.injEq] at hd; subst hd; simp only []; omega)
          have hfr81 : ∀ q, F79 q → F41 q ∨ w65.heap.size ≤ q := fun q hq => (hfd80 q hq).imp id (fun h => by omega)
          have own83 : ∀ q, F79 q → 0 ≤ q := fun q hq => by rcases hfr81 q hq with h | h; (have h1 := own53 q h; have h2 := lt52 q h; omega); omega
          have lt82 := Vot.lt ho78
          have rel84 : ∀ q, F79 q → F q ∨ w.heap.size ≤ q := fun q hq => by rcases hfr81 q hq with h | h; exact rel54 q h; exact .inr (by omega)
          have dis85 : ∀ q, F79 q → ¬ G q := fun q h1 h2 => by rcases hfr81 q h1 with h | h; exact dis55 q h h2; (have h4 := hGlt q h2; omega)
          obtain ⟨bd88, hF87, hF89, hm86, hm90⟩ := Vot.recD ho78 hgc44 (by rw [show (s.setR who t { (s.rc who t) with d := some (DelS.mk to level n) }).rc who t = { (s.rc who t) with d := some (DelS.mk to level n) } from (updR_self _ _ _ _)]; first | done | exact rfl)
          have hbd88lt := hm90.lt
          have hlobd88 := lt82 _ hF89
          have hobd88 := own83 _ hF89
          rw [show (s.setR who t { (s.rc who t) with d := some (DelS.mk to level n) }).rc who t = { (s.rc who t) with d := some (DelS.mk to level n) } from (updR_self _ _ _ _)] at hm86
          have hq39lt := hm86.lt
          have hloq39 := lt82 _ hF87
          have hoq39 := own83 _ hF87
          have hnebd88q39 : bd88 ≠ q39 := Blk.ne hm90 hm86 (by decide)
          refine OI_end rfl ?_
          refine X_then ?_
          refine V_seq ?_
          refine V_region ?_
          refine OI_static 5 [(1, pt l), (2, nt who), (3, nt t), (6, nt n), (82, pt v), (83, nt to), (84, nt t), (85, nt n), (86, nt level)] (by kernel_rfl) ?_
          refine OI_call { callee := (Callee.value (Operand.func 51)), args := #[(Operand.tmp 85), (Operand.tmp 86)], argTypes := #[3, 3] } 51 #[nt n, nt level] (some 87) (by kernel_rfl) (by kernel_rfl) (by kernel_rfl) (cvVotes_spec n level _) ?_
          rintro _ w72 ⟨rfl, rfl⟩
          refine ⟨_, rfl, ?_⟩
          refine OI_static 8 [(1, pt l), (2, nt who), (3, nt t), (6, nt n), (82, pt v), (83, nt to), (84, nt t), (89, .agg #[nt (cvVotes n level), nt n])] (by kernel_rfl) ?_
          refine OI_call { callee := (Callee.value (Operand.func 50)), args := #[(Operand.tmp 82), (Operand.tmp 83), (Operand.tmp 84), (Operand.tmp 89)], argTypes := #[31, 3, 3, 54] } 50 #[pt v, nt to, nt t, .agg #[nt (cvVotes n level), nt n]] (some 90) (by kernel_rfl) (by kernel_rfl) (by kernel_rfl) (gets_spec F79 v P40 (s.setR who t { (s.rc who t) with d := some (DelS.mk to level n) }) to t (Wgt.mk (cvVotes n level) n) _ ho78 (by omega) (by omega)) ?_
          rintro _ w98 ⟨rfl, P100, hpp104, hgv105, hmn106, hdl107, ⟨F101, ho102, hfr103⟩, hk99⟩
          refine ⟨_, rfl, ?_⟩
          have hsz108 := Keep.size hk99
          replace hl := Led.keep hl hk99 (fun q hq hs => dis85 q hs hq)
          replace hK0 := Keep.fresh hK0 hk99 (fun i hi hs => by rcases rel84 i hs with h | h; exact .inl h; (exfalso; omega))
          have own110 : ∀ q, F101 q → 0 ≤ q := fun q hq => by rcases hfr103 q hq with h | h; (have h1 := own83 q h; have h2 := lt82 q h; omega); omega
          have lt109 := Vot.lt ho102
          have rel111 : ∀ q, F101 q → F q ∨ w.heap.size ≤ q := fun q hq => by rcases hfr103 q hq with h | h; exact rel84 q h; exact .inr (by omega)
          have dis112 : ∀ q, F101 q → ¬ G q := fun q h1 h2 => by rcases hfr103 q h1 with h | h; exact dis85 q h h2; (have h4 := hGlt q h2; omega)
          have hqq39w98 := hmn106 _ _ _ hgc44
          refine OI_end rfl ?_
          refine X_then ?_
          refine V_seq ?_
          refine V_region ?_
          refine OI_static 4 [(91, pt l), (92, nt who), (93, nt t), (94, nt n)] (by kernel_rfl) ?_
          refine OI_call { callee := (Callee.value (Operand.func 52)), args := #[(Operand.tmp 91), (Operand.tmp 92), (Operand.tmp 93), (Operand.tmp 94)], argTypes := #[30, 3, 3, 3] } 52 #[pt l, nt who, nt t, nt n] (some 95) (by kernel_rfl) (by kernel_rfl) (by kernel_rfl) (raise_spec G l xs cs who t n _ hl hmax) ?_
          rintro _ w115 ⟨rfl, ⟨F117, ho118, hfr119⟩, hk116⟩
          refine ⟨_, rfl, ?_⟩
          have hsz120 := Keep.size hk116
          replace hK0 := Keep.fresh hK0 hk116 (fun i hi hs => by rcases hGr i hs with h | h; exact .inr h; (exfalso; omega))
          replace ho102 := Vot.keep ho102 hk116 (fun q hq hs => (fun q h1 h2 => dis112 q h2 h1) q hs hq)
          have own122 : ∀ q, F117 q → 0 ≤ q := fun q hq => by rcases hfr119 q hq with h | h; (have h1 := hGo q h; have h2 := hGlt q h; omega); omega
          have lt121 := Led.lt ho118
          have rel123 : ∀ q, F117 q → G q ∨ w.heap.size ≤ q := fun q hq => by rcases hfr119 q hq with h | h; exact hGr q h; exact .inr (by omega)
          have dis124 : ∀ q, F117 q → ¬ F101 q := fun q h1 h2 => by rcases hfr119 q h1 with h | h; exact (fun q h1 h2 => dis112 q h2 h1) q h h2; (have h4 := lt109 q h2; omega)
          refine OI_end rfl ?_
          refine X_then ?_
          refine V_seq ?_
          refine V_region ?_
          refine OI_static 1 [(14, nt 0)] (by kernel_rfl) ?_
          refine OI_end rfl ?_
          refine X_then ?_
          refine V_ret ?_
          have hE125 : delE xs s who t to level n = 0 := by unfold delE; rw [if_neg (by rintro (h9 | h9 | h9 | h9 | h9 | h9); exact h9 hg6; exact h9 hg12; exact h9 hg18; exact h9 hg24; exact h9 hg30; exact h9 hc31)]; rw [if_neg (by rw [hd33]; decide)]; rw [if_neg hc63]; rw [if_neg hc68]
          exact X_return (nt 0) rfl ⟨by rw [hE125], ⟨F101, F117, ⟨_, by rw [show delS xs s who t to level n = (getsS (s.setR who t { (s.rc who t) with d := some (DelS.mk to level n) }) to t (Wgt.mk (cvVotes n level) n)) from by unfold delS; rw [hE125, if_pos rfl]]; exact ho102⟩, by rw [show delC2 xs cs s who t to level n = raiseC cs who t n from by unfold delC2; rw [hE125, if_pos rfl]]; exact ho118, rel111, rel123, (fun q h1 h2 => dis124 q h2 h1)⟩, hK0⟩
       ·
        refine OI_call { callee := (Callee.value (Operand.func 48)), args := #[(Operand.tmp 52), (Operand.tmp 53), (Operand.tmp 54)], argTypes := #[31, 3, 3] } 48 #[pt v, nt who, nt t] (some 55) (by kernel_rfl) (by kernel_rfl) (by kernel_rfl) (record_spec F v P s who t _ h (by omega) (by omega)) ?_
        rintro _ w140 ⟨q130, P131, rfl, hgc135, hpp136, hgv137, hmn138, hdl139, ⟨F132, ho133, hfr134⟩, hk141⟩
        refine ⟨_, rfl, ?_⟩
        have hsz142 := Keep.size hk141
        replace hl := Led.keep hl hk141 (fun q hq hs => hdis q hs hq)
        replace hK0 := Keep.fresh hK0 hk141 (fun i hi hs => by rcases hFr i hs with h | h; exact .inl h; (exfalso; omega))
        have own144 : ∀ q, F132 q → 0 ≤ q := fun q hq => by rcases hfr134 q hq with h | h; (have h1 := hFo q h; have h2 := hFlt q h; omega); omega
        have lt143 := Vot.lt ho133
        have rel145 : ∀ q, F132 q → F q ∨ w.heap.size ≤ q := fun q hq => by rcases hfr134 q hq with h | h; exact hFr q h; exact .inr (by omega)
        have dis146 : ∀ q, F132 q → ¬ G q := fun q h1 h2 => by rcases hfr134 q h1 with h | h; exact hdis q h h2; (have h4 := hGlt q h2; omega)
        have hgq130lt := lt143 _ (Vot.at_ ho133)
        obtain ⟨bd149, hF148, hF150, hm147, hm151⟩ := Vot.recD ho133 hgc135 hd33
        have hbd149lt := hm151.lt
        have hlobd149 := lt143 _ hF150
        have hobd149 := own144 _ hF150
        have hq130lt := hm147.lt
        have hloq130 := lt143 _ hF148
        have hoq130 := own144 _ hF148
        have hnebd149q130 : bd149 ≠ q130 := Blk.ne hm151 hm147 (by decide)
        refine OI_static 5 [(0, pt v), (1, pt l), (2, nt who), (3, nt t), (4, nt to), (5, nt level), (6, nt n), (15, pt q130)] (by kernel_rfl) ?_
        refine OI_end rfl ?_
        refine X_then ?_
        refine V_seq ?_
        refine V_block ?_
        refine V_seq ?_
        refine V_region ?_
        refine OI_static 3 [(0, pt v), (1, pt l), (2, nt who), (3, nt t), (4, nt to), (5, nt level), (6, nt n), (15, pt q130), (59, pt q130)] (by kernel_rfl) ?_
        refine OI_cell 97 (.tmp 59) 0 (pt bd149) (some 60) (by kernel_rfl) (by kernel_rfl) hm147 (m := 1) (by kernel_rfl) rfl ?_
        refine OI_static 6 [(0, pt v), (1, pt l), (2, nt who), (3, nt t), (4, nt to), (5, nt level), (6, nt n), (15, pt q130), (56, .bool true)] (by kernel_rfl) ?_
        refine OI_end rfl ?_
        refine X_then ?_
        refine V_true rfl ?_
        refine V_seq ?_
        refine V_region ?_
        refine OI_static 1 [(14, nt 5)] (by kernel_rfl) ?_
        refine OI_end rfl ?_
        refine X_then ?_
        refine V_ret ?_
        refine X_ret_block ?_
        refine X_ret_then ?_
        have hE152 : delE xs s who t to level n = 5 := by unfold delE; rw [if_neg (by rintro (h9 | h9 | h9 | h9 | h9 | h9); exact h9 hg6; exact h9 hg12; exact h9 hg18; exact h9 hg24; exact h9 hg30; exact h9 hc31)]; rw [if_pos (by rw [hd33]; rfl)]
        exact X_return (nt 5) rfl ⟨by rw [hE152], ⟨F132, G, ⟨_, by rw [show delS xs s who t to level n = s from by unfold delS; rw [hE152, if_neg (by decide)]]; exact ho133⟩, by rw [show delC2 xs cs s who t to level n = cs from by unfold delC2; rw [hE152, if_neg (by decide)]]; exact hl, rel145, hGr, dis146⟩, hK0⟩
     ·
      refine OI_eq [(0, pt v), (1, pt l), (2, nt who), (3, nt t), (4, nt to), (5, nt level), (6, nt n), (47, .bool true)] (by first | simp [hg30] | rfl) ?_
      refine OI_static 36 [(0, pt v), (1, pt l), (2, nt who), (3, nt t), (4, nt to), (5, nt level), (6, nt n), (51, .bool true)] (by kernel_rfl) ?_
      refine OI_end rfl ?_
      refine X_then ?_
      refine V_true rfl ?_
      refine V_seq ?_
      refine V_region ?_
      refine OI_static 1 [(14, nt 1)] (by kernel_rfl) ?_
      refine OI_end rfl ?_
      refine X_then ?_
      refine V_ret ?_
      refine X_ret_then ?_
      have hE153 : delE xs s who t to level n = 1 := by unfold delE; rw [if_pos (.inr (.inr (.inr (.inr (.inl hg30)))))]
      exact X_return (nt 1) rfl ⟨by rw [hE153], ⟨F, G, ⟨_, by rw [show delS xs s who t to level n = s from by unfold delS; rw [hE153, if_neg (by decide)]]; exact h⟩, by rw [show delC2 xs cs s who t to level n = cs from by unfold delC2; rw [hE153, if_neg (by decide)]]; exact hl, hFr, hGr, hdis⟩, hK0⟩
    ·
     refine OI_eq [(0, pt v), (1, pt l), (2, nt who), (3, nt t), (4, nt to), (5, nt level), (6, nt n), (42, .bool true)] (by first | simp [hg24] | rfl) ?_
     refine OI_static 36 [(0, pt v), (1, pt l), (2, nt who), (3, nt t), (4, nt to), (5, nt level), (6, nt n), (51, .bool true)] (by kernel_rfl) ?_
     refine OI_end rfl ?_
     refine X_then ?_
     refine V_true rfl ?_
     refine V_seq ?_
     refine V_region ?_
     refine OI_static 1 [(14, nt 1)] (by kernel_rfl) ?_
     refine OI_end rfl ?_
     refine X_then ?_
     refine V_ret ?_
     refine X_ret_then ?_
     have hE154 : delE xs s who t to level n = 1 := by unfold delE; rw [if_pos (.inr (.inr (.inr (.inl hg24))))]
     exact X_return (nt 1) rfl ⟨by rw [hE154], ⟨F, G, ⟨_, by rw [show delS xs s who t to level n = s from by unfold delS; rw [hE154, if_neg (by decide)]]; exact h⟩, by rw [show delC2 xs cs s who t to level n = cs from by unfold delC2; rw [hE154, if_neg (by decide)]]; exact hl, hFr, hGr, hdis⟩, hK0⟩
   ·
    refine OI_eq [(0, pt v), (1, pt l), (2, nt who), (3, nt t), (4, nt to), (5, nt level), (6, nt n), (37, .bool true)] (by first | simp [hg18] | rfl) ?_
    refine OI_static 36 [(0, pt v), (1, pt l), (2, nt who), (3, nt t), (4, nt to), (5, nt level), (6, nt n), (51, .bool true)] (by kernel_rfl) ?_
    refine OI_end rfl ?_
    refine X_then ?_
    refine V_true rfl ?_
    refine V_seq ?_
    refine V_region ?_
    refine OI_static 1 [(14, nt 1)] (by kernel_rfl) ?_
    refine OI_end rfl ?_
    refine X_then ?_
    refine V_ret ?_
    refine X_ret_then ?_
    have hE155 : delE xs s who t to level n = 1 := by unfold delE; rw [if_pos (.inr (.inr (.inl hg18)))]
    exact X_return (nt 1) rfl ⟨by rw [hE155], ⟨F, G, ⟨_, by rw [show delS xs s who t to level n = s from by unfold delS; rw [hE155, if_neg (by decide)]]; exact h⟩, by rw [show delC2 xs cs s who t to level n = cs from by unfold delC2; rw [hE155, if_neg (by decide)]]; exact hl, hFr, hGr, hdis⟩, hK0⟩
  ·
   refine OI_eq [(0, pt v), (1, pt l), (2, nt who), (3, nt t), (4, nt to), (5, nt level), (6, nt n), (32, .bool true)] (by first | simp [hg12] | rfl) ?_
   refine OI_static 36 [(0, pt v), (1, pt l), (2, nt who), (3, nt t), (4, nt to), (5, nt level), (6, nt n), (51, .bool true)] (by kernel_rfl) ?_
   refine OI_end rfl ?_
   refine X_then ?_
   refine V_true rfl ?_
   refine V_seq ?_
   refine V_region ?_
   refine OI_static 1 [(14, nt 1)] (by kernel_rfl) ?_
   refine OI_end rfl ?_
   refine X_then ?_
   refine V_ret ?_
   refine X_ret_then ?_
   have hE156 : delE xs s who t to level n = 1 := by unfold delE; rw [if_pos (.inr (.inl hg12))]
   exact X_return (nt 1) rfl ⟨by rw [hE156], ⟨F, G, ⟨_, by rw [show delS xs s who t to level n = s from by unfold delS; rw [hE156, if_neg (by decide)]]; exact h⟩, by rw [show delC2 xs cs s who t to level n = cs from by unfold delC2; rw [hE156, if_neg (by decide)]]; exact hl, hFr, hGr, hdis⟩, hK0⟩
 ·
  refine OI_eq [(0, pt v), (1, pt l), (2, nt who), (3, nt t), (4, nt to), (5, nt level), (6, nt n), (27, .bool true)] (by first | simp [hg6] | rfl) ?_
  refine OI_static 36 [(0, pt v), (1, pt l), (2, nt who), (3, nt t), (4, nt to), (5, nt level), (6, nt n), (51, .bool true)] (by kernel_rfl) ?_
  refine OI_end rfl ?_
  refine X_then ?_
  refine V_true rfl ?_
  refine V_seq ?_
  refine V_region ?_
  refine OI_static 1 [(14, nt 1)] (by kernel_rfl) ?_
  refine OI_end rfl ?_
  refine X_then ?_
  refine V_ret ?_
  refine X_ret_then ?_
  have hE157 : delE xs s who t to level n = 1 := by unfold delE; rw [if_pos (.inl hg6)]
  exact X_return (nt 1) rfl ⟨by rw [hE157], ⟨F, G, ⟨_, by rw [show delS xs s who t to level n = s from by unfold delS; rw [hE157, if_neg (by decide)]]; exact h⟩, by rw [show delC2 xs cs s who t to level n = cs from by unfold delC2; rw [hE157, if_neg (by decide)]]; exact hl, hFr, hGr, hdis⟩, hK0⟩
end Go.Al


namespace Go.Al
open Go Go.RowKit Go.Proofs
def VS.zero : VS := ⟨List.replicate 12 none, [], fun _ _ => RecS.zero⟩
theorem Vot.new {F1 F2 : Nat → Prop} {w : World} {v gv gr : Nat} (h1 : GV.Grd F1 w gv []) (h2 : GR.Grd F2 w gr []) (hb : Blk w v ((List.replicate 12 none).map Value.pointer ++ [.pointer (some ⟨gv, 0, none⟩), .pointer (some ⟨gr, 0, none⟩)]) 94) (d12 : ∀ q, F1 q → ¬ F2 q) (n1 : ∀ q, F1 q → q ≠ v) (n2 : ∀ q, F2 q → q ≠ v) :
    Vot (fun q => F1 q ∨ F2 q ∨ q = v) w v ⟨gv, gr, List.replicate 12 none, []⟩ VS.zero := by
  refine ⟨F1, F2, fun q => q = v, ⟨⟨rfl, (fun c hc => by cases hc), (fun a t d hd => by cases hd)⟩, h1, h2, rfl, fun q hq => by rw [hq]; exact hb.lt, d12, n1, n2, rfl, hb, fun i hi => ?_, ?_, fun c hc => (by cases hc), fun a t => .inl ⟨rfl, rfl⟩, ?_⟩, fun _ h => .inl h, fun _ h => .inr (.inl h), fun _ h => .inr (.inr h), ?_⟩
  · left
    show (List.replicate 12 none)[i]? = some none ∧ (List.replicate 12 none)[i]? = some none
    rw [List.getElem?_replicate, List.getElem?_replicate, if_pos hi, if_pos hi]; exact ⟨rfl, rfl⟩
  · intro i j b hi
    have hi' : (List.replicate 12 (none : Option Addr))[i]? = some (some ⟨b, 0, none⟩) := hi
    rw [List.getElem?_replicate] at hi'
    split at hi' <;> cases hi'
  · intro a t a' t' q hq; cases hq
  · rintro q (h | h | rfl)
    · exact h1.lt q h
    · exact h2.lt q h
    · exact hb.lt
theorem TrkOk.zero : TrkOk VS.zero := by
  intro i q h
  have h' : (List.replicate 12 (none : Option PollS))[i]? = some (some q) := h
  rw [List.getElem?_replicate] at h'
  split at h' <;> cases h'
theorem TrkOk.setP {s : VS} (h : TrkOk s) {i : Nat} {q : PollS} (hq : 0 ≤ q.track ∧ q.track < 4) : TrkOk (s.setP i q) := by
  intro j q' e
  have e' : (s.ps.set i (some q))[j]? = some (some q') := e
  rw [List.getElem?_set] at e'
  split at e'
  · split at e'
    · simp only [Option.some.injEq] at e'; rw [← e']; exact hq
    · cases e'
  · exact h j q' e'
theorem TrkOk.poll {s : VS} (h : TrkOk s) {ref : Int} {q : PollS} (e : pollAt s ref = some q) : 0 ≤ q.track ∧ q.track < 4 := by
  unfold pollAt at e
  split at e
  · cases hg : s.ps[ref.toNat]? with
    | none => rw [hg] at e; cases e
    | some x => rw [hg] at e; exact h _ _ (by rw [hg]; exact congrArg some e)
  · cases e
theorem TrkOk.cs {s : VS} (h : TrkOk s) (c : List GV.Ci) : TrkOk { s with cs := c } := h
theorem TrkOk.setR {s : VS} (h : TrkOk s) (a t : Int) (r : RecS) : TrkOk (s.setR a t r) := h
theorem TrkOk.retally {was now : Wgt} : ∀ (l : List (Int × Vt)) {s : VS}, TrkOk s → TrkOk (retally was now s l)
  | [], s, h => h
  | c :: l, s, h => by
    refine TrkOk.retally l (s := retally1 was now s c) ?_
    unfold retally1
    split
    · rename_i q hq
      split
      · exact h.setP (show 0 ≤ q.track ∧ q.track < 4 from h _ _ hq)
      · exact h
    · exact h
theorem TrkOk.gets {s : VS} (h : TrkOk s) (a t : Int) (wt : Wgt) : TrkOk (getsS s a t wt) := TrkOk.retally _ (h.setR a t _)
theorem TrkOk.openS {s : VS} (h : TrkOk s) (ref t : Int) : TrkOk (openS s ref t) := by
  unfold Al.openS
  split
  · rename_i he
    refine h.setP ?_
    show 0 ≤ t ∧ t < 4
    unfold openE at he
    split at he
    · cases he
    · omega
  · exact h
theorem TrkOk.closeS {s : VS} (h : TrkOk s) (ref st en : Int) : TrkOk (closeS s ref st en) := by
  unfold Al.closeS
  split
  · exact h
  · rename_i q hq
    split
    · exact h.setP (show 0 ≤ q.track ∧ q.track < 4 from h.poll hq)
    · exact h
theorem TrkOk.voteS {s : VS} (h : TrkOk s) (xs : List Acc) (who ref : Int) (x : Vt) : TrkOk (voteS xs s who ref x) := by
  unfold Al.voteS
  split
  · split
    · exact h
    · rename_i q hq; exact h.setP (show 0 ≤ q.track ∧ q.track < 4 from h.poll hq)
  · exact h
theorem TrkOk.unvS {s : VS} (h : TrkOk s) (who ref now : Int) : TrkOk (unvS s who ref now) := by
  unfold Al.unvS
  split
  · split
    · exact h
    · rename_i q hq
      split
      · exact (h.cs _).setP (show 0 ≤ q.track ∧ q.track < 4 from h.poll hq)
      · split
        · exact (h.cs _).setR _ _ _
        · exact h.cs _
  · exact h
theorem TrkOk.delS {s : VS} (h : TrkOk s) (xs : List Acc) (who t to level n : Int) : TrkOk (delS xs s who t to level n) := by
  unfold Al.delS
  split
  · exact (h.setR _ _ _).gets _ _ _
  · exact h
theorem TrkOk.unlS {s : VS} (h : TrkOk s) (who t now : Int) : TrkOk (unlS s who t now) := by
  unfold Al.unlS
  split
  · exact h.setR _ _ _
  · exact h
/-- The voting at v. -/
def VotT (F : Nat → Prop) (w : World) (v : Nat) (s : VS) : Prop := VotE F w v s ∧ TrkOk s
section
variable {F S : Nat → Prop} {w w' : World} {v N : Nat} {s : VS}
theorem VotT.lt (h : VotT F w v s) : ∀ q, F q → q < w.heap.size := h.1.lt
theorem VotT.at_ (h : VotT F w v s) : F v := h.1.at_
theorem VotT.keep (h : VotT F w v s) (k : Keep S w w') (hS : ∀ q, F q → ¬ S q) : VotT F w' v s := ⟨h.1.keep k hS, h.2⟩
theorem VotT.quiet (h : VotT F w v s) (k : Keep (lb N w) w w') : VotT F w' v s := ⟨h.1.quiet k, h.2⟩
theorem VotT.inv (h : VotT F w v s) : s.Inv := h.1.inv
end

set_option maxRecDepth 10000 in
theorem new_votT (w : World) : Calls Tryz.prog 42 #[] w fun e w' => ∃ v F, e = .returned (.pointer (some ⟨v, 0, none⟩)) ∧ VotT F w' v VS.zero ∧ Keep none_ w w' ∧ (∀ q, F q → w.heap.size ≤ q) := by
 have hK0 : Keep none_ w w := Keep.refl _ _
 have hzhK0 := Keep.size hK0
 refine enterV Tryz.func42 rfl [] 5 rfl rfl rfl ?_
 refine V_pick [] rfl ?_
 refine V_seq ?_
 refine V_region ?_
 refine OI_static 1 [] (by kernel_rfl) ?_
 refine OI_end rfl ?_
 refine X_then ?_
 refine V_seq ?_
 refine V_region ?_
 refine OI_call { callee := (Callee.value (Operand.func 85)), args := #[], argTypes := #[] } 85 #[] (some 1) (by kernel_rfl) (by kernel_rfl) (by kernel_rfl) (GV.new_grd _) ?_
 rintro _ w1 ⟨g3, F4, rfl, ho5, hk2, hge6⟩
 refine ⟨_, rfl, ?_⟩
 have hsz7 := Keep.size hk2
 replace hK0 := Keep.tr hK0 (Keep.ofNone hk2)
 have own8 : ∀ q, F4 q → w.heap.size ≤ q := fun q hq => by have h1 := hge6 q hq; omega
 have lt9 := GV.Grd.lt ho5
 have hg3lt : g3 < w1.heap.size := GV.Grd.lt ho5 _ (GV.Grd.at_ ho5)
 have hg3ge := hge6 _ (GV.Grd.at_ ho5)
 refine OI_call { callee := (Callee.value (Operand.func 86)), args := #[], argTypes := #[] } 86 #[] (some 2) (by kernel_rfl) (by kernel_rfl) (by kernel_rfl) (GR.new_grd _) ?_
 rintro _ w10 ⟨g12, F13, rfl, ho14, hk11, hge15⟩
 refine ⟨_, rfl, ?_⟩
 have hsz16 := Keep.size hk11
 replace hK0 := Keep.tr hK0 (Keep.ofNone hk11)
 replace ho5 := GV.Grd.keep ho5 hk11 (fun _ _ f => f)
 have own17 : ∀ q, F13 q → w1.heap.size ≤ q := fun q hq => by have h1 := hge15 q hq; omega
 have lt18 := GR.Grd.lt ho14
 have dis19 : ∀ q, F13 q → ¬ F4 q := fun q h1 h2 => by have h3 := hge15 q h1; have h4 := lt9 q h2; omega
 have hg12lt : g12 < w10.heap.size := GR.Grd.lt ho14 _ (GR.Grd.at_ ho14)
 have hg12ge := hge15 _ (GR.Grd.at_ ho14)
 refine OI_static 3 [(3, .agg #[.pointer none, .pointer none, .pointer none, .pointer none, .pointer none, .pointer none, .pointer none, .pointer none, .pointer none, .pointer none, .pointer none, .pointer none, pt g3, pt g12])] (by kernel_rfl) ?_
 refine OI_box 94 (.tmp 3) (.agg #[.pointer none, .pointer none, .pointer none, .pointer none, .pointer none, .pointer none, .pointer none, .pointer none, .pointer none, .pointer none, .pointer none, .pointer none, pt g3, pt g12]) [.pointer none, .pointer none, .pointer none, .pointer none, .pointer none, .pointer none, .pointer none, .pointer none, .pointer none, .pointer none, .pointer none, .pointer none, pt g3, pt g12] (some 4) (by kernel_rfl) (by kernel_rfl) (by kernel_rfl) ?_
 intro b20 w20 e20 hb20 k20 z20
 have hsz21 := Keep.size k20
 replace hK0 := Keep.tr hK0 (Keep.ofNone k20)
 replace ho5 := GV.Grd.keep ho5 k20 (fun _ _ f => f)
 replace ho14 := GR.Grd.keep ho14 k20 (fun _ _ f => f)
 have hb20lt := hb20.lt
 refine OI_static 5 [(0, pt b20)] (by kernel_rfl) ?_
 refine OI_end rfl ?_
 refine X_then ?_
 refine V_ret ?_
 exact X_return _ rfl ⟨b20, _, rfl, ⟨⟨_, Vot.new (gv := g3) (gr := g12) ho5 ho14 hb20 (fun q h1 h2 => dis19 q h2 h1) (fun q hq => by have h1 := lt9 q hq; omega) (fun q hq => by have h1 := lt18 q hq; omega)⟩, TrkOk.zero⟩, hK0, fun q hq => by rcases hq with h | h | h; (have h1 := own8 q h; omega); (have h1 := own17 q h; omega); omega⟩

theorem vote_spec (F G : Nat → Prop) (v l : Nat) (s : VS) (xs : List Acc) (cs : List Ci) (who ref : Int) (x : Vt) (w : World) (h : VotT F w v s) (hl : Led G w l xs cs) (hdis : ∀ q, F q → ¬ G q) (hmax : cs.length < 100000) : Calls Tryz.prog 18 #[.pointer (some ⟨v, 0, none⟩), .pointer (some ⟨l, 0, none⟩), .int .i64 who, .int .i64 ref, .agg x.cells.toArray] w fun e w' => e = .returned (.int .i64 (voteE xs s who ref x)) ∧ (∃ F' G', VotT F' w' v (voteS xs s who ref x) ∧ Led G' w' l xs (voteC xs cs s who ref x) ∧ (∀ q, F' q → F q ∨ w.heap.size ≤ q) ∧ (∀ q, G' q → G q ∨ w.heap.size ≤ q) ∧ (∀ q, F' q → ¬ G' q)) ∧ Keep (fun q => F q ∨ G q) w w' := by
  obtain ⟨⟨P, h⟩, ht⟩ := h
  refine (vote_at F G v l P s xs cs who ref x w h hl hdis ht hmax).mono ?_
  rintro e w' ⟨rfl, ⟨F', G', h1, h2, h3⟩, hk⟩
  exact ⟨rfl, ⟨F', G', ⟨h1, ht.voteS _ _ _ _⟩, h2, h3⟩, hk⟩

theorem delegate_spec (F G : Nat → Prop) (v l : Nat) (s : VS) (xs : List Acc) (cs : List Ci) (who t to level n : Int) (w : World) (h : VotT F w v s) (hl : Led G w l xs cs) (hdis : ∀ q, F q → ¬ G q) (hmax : cs.length < 100000) : Calls Tryz.prog 17 #[.pointer (some ⟨v, 0, none⟩), .pointer (some ⟨l, 0, none⟩), .int .i64 who, .int .i64 t, .int .i64 to, .int .i64 level, .int .i64 n] w fun e w' => e = .returned (.int .i64 (delE xs s who t to level n)) ∧ (∃ F' G', VotT F' w' v (delS xs s who t to level n) ∧ Led G' w' l xs (delC2 xs cs s who t to level n) ∧ (∀ q, F' q → F q ∨ w.heap.size ≤ q) ∧ (∀ q, G' q → G q ∨ w.heap.size ≤ q) ∧ (∀ q, F' q → ¬ G' q)) ∧ Keep (fun q => F q ∨ G q) w w' := by
  obtain ⟨⟨P, h⟩, ht⟩ := h
  refine (delegate_at F G v l P s xs cs who t to level n w h hl hdis hmax).mono ?_
  rintro e w' ⟨rfl, ⟨F', G', h1, h2, h3⟩, hk⟩
  exact ⟨rfl, ⟨F', G', ⟨h1, ht.delS _ _ _ _ _ _⟩, h2, h3⟩, hk⟩

theorem open_specT (F : Nat → Prop) (v : Nat) (s : VS) (ref t : Int) (w : World) (h : VotT F w v s) : Calls Tryz.prog 16 #[.pointer (some ⟨v, 0, none⟩), .int .i64 ref, .int .i64 t] w fun e w' => e = .returned (.int .i64 (openE s ref t)) ∧ (∃ F', VotT F' w' v (openS s ref t) ∧ (∀ q, F' q → F q ∨ w.heap.size ≤ q)) ∧ Keep F w w' := by
  obtain ⟨h, ht⟩ := h
  refine (open_spec F v s ref t w h).mono ?_
  rintro e w' ⟨rfl, ⟨F', h1, h3⟩, hk⟩
  exact ⟨rfl, ⟨F', ⟨h1, ht.openS _ _⟩, h3⟩, hk⟩

theorem close_specT (F : Nat → Prop) (v : Nat) (s : VS) (ref st en : Int) (w : World) (h : VotT F w v s) : Calls Tryz.prog 32 #[.pointer (some ⟨v, 0, none⟩), .int .i64 ref, .int .i64 st, .int .i64 en] w fun e w' => e = .returned (.int .i64 (closeE s ref st)) ∧ (∃ F', VotT F' w' v (closeS s ref st en) ∧ (∀ q, F' q → F q ∨ w.heap.size ≤ q)) ∧ Keep F w w' := by
  obtain ⟨h, ht⟩ := h
  refine (close_spec F v s ref st en w h).mono ?_
  rintro e w' ⟨rfl, ⟨F', h1, h3⟩, hk⟩
  exact ⟨rfl, ⟨F', ⟨h1, ht.closeS _ _ _⟩, h3⟩, hk⟩
end Go.Al


namespace Go.Al
open Go Go.RowKit Go.Proofs
theorem new_ok (A : Option Addr) (cap : Nat) (fs : List Int) (w : World) (hA : ArgT w 1 intc A cap fs) (hn : fs.length ≤ 100000) (hok : okP fs) : Calls Tryz.prog 29 #[.slice A fs.length cap] w fun e w' => ∃ l F, e = .returned (.tuple #[.pointer (some ⟨l, 0, none⟩), .int .i64 0]) ∧ Led F w' l (newX fs 10) [] ∧ Keep none_ w w' ∧ (∀ q, F q → w.heap.size ≤ q) :=
  (new_spec6 A cap fs w hA hn).mono (by
    rintro e w' (⟨_, h⟩ | ⟨h, _⟩)
    · exact h
    · exact absurd hok h)

set_option maxRecDepth 10000 in
theorem rPeriod_0 (n : Int) (w : World) : Calls Tryz.prog 33 #[.int .i64 0, .int .i64 n] w fun e w' => e = .returned (.int .i64 (cvPeriod 0 n)) ∧ w' = w := by
 refine enterV Tryz.func33 rfl [nt 0, nt n] 12 rfl rfl rfl ?_
 refine V_pick [(0, nt 0), (1, nt n)] rfl ?_
 refine V_seq ?_
 refine V_region ?_
 refine OI_static 1 [(0, nt 0), (1, nt n)] (by kernel_rfl) ?_
 refine OI_end rfl ?_
 refine X_then ?_
 refine V_seq ?_
 refine V_seq ?_
 refine V_region ?_
 refine OI_static 2 [(0, nt 0), (1, nt n), (6, .bool true)] (by kernel_rfl) ?_
 refine OI_end rfl ?_
 refine X_then ?_
 refine V_true rfl ?_
 refine V_seq ?_
 refine V_region ?_
 refine OI_static 1 [(4, nt 0)] (by kernel_rfl) ?_
 refine OI_end rfl ?_
 refine X_then ?_
 refine V_ret ?_
 refine X_ret_then ?_
 exact X_return (nt 0) rfl ⟨rfl, rfl⟩

set_option maxRecDepth 10000 in
theorem rPeriod_1 (n : Int) (w : World) : Calls Tryz.prog 33 #[.int .i64 1, .int .i64 n] w fun e w' => e = .returned (.int .i64 (cvPeriod 1 n)) ∧ w' = w := by
 refine enterV Tryz.func33 rfl [nt 1, nt n] 12 rfl rfl rfl ?_
 refine V_pick [(0, nt 1), (1, nt n)] rfl ?_
 refine V_seq ?_
 refine V_region ?_
 refine OI_static 1 [(0, nt 1), (1, nt n)] (by kernel_rfl) ?_
 refine OI_end rfl ?_
 refine X_then ?_
 refine V_seq ?_
 refine V_seq ?_
 refine V_region ?_
 refine OI_static 2 [(0, nt 1), (1, nt n), (6, .bool false)] (by kernel_rfl) ?_
 refine OI_end rfl ?_
 refine X_then ?_
 refine V_false rfl ?_
 refine V_skip ?_
 refine X_then ?_
 refine V_seq ?_
 refine V_region ?_
 refine OI_static 6 [(4, nt (IntKind.i64.wrap (n * 2 ^ 0)))] (by kernel_rfl) ?_
 refine OI_end rfl ?_
 refine X_then ?_
 refine V_ret ?_
 exact X_return (nt (IntKind.i64.wrap (n * 2 ^ 0))) rfl ⟨rfl, rfl⟩

set_option maxRecDepth 10000 in
theorem rPeriod_2 (n : Int) (w : World) : Calls Tryz.prog 33 #[.int .i64 2, .int .i64 n] w fun e w' => e = .returned (.int .i64 (cvPeriod 2 n)) ∧ w' = w := by
 refine enterV Tryz.func33 rfl [nt 2, nt n] 12 rfl rfl rfl ?_
 refine V_pick [(0, nt 2), (1, nt n)] rfl ?_
 refine V_seq ?_
 refine V_region ?_
 refine OI_static 1 [(0, nt 2), (1, nt n)] (by kernel_rfl) ?_
 refine OI_end rfl ?_
 refine X_then ?_
 refine V_seq ?_
 refine V_seq ?_
 refine V_region ?_
 refine OI_static 2 [(0, nt 2), (1, nt n), (6, .bool false)] (by kernel_rfl) ?_
 refine OI_end rfl ?_
 refine X_then ?_
 refine V_false rfl ?_
 refine V_skip ?_
 refine X_then ?_
 refine V_seq ?_
 refine V_region ?_
 refine OI_static 6 [(4, nt (IntKind.i64.wrap (n * 2 ^ 1)))] (by kernel_rfl) ?_
 refine OI_end rfl ?_
 refine X_then ?_
 refine V_ret ?_
 exact X_return (nt (IntKind.i64.wrap (n * 2 ^ 1))) rfl ⟨rfl, rfl⟩

set_option maxRecDepth 10000 in
theorem rPeriod_3 (n : Int) (w : World) : Calls Tryz.prog 33 #[.int .i64 3, .int .i64 n] w fun e w' => e = .returned (.int .i64 (cvPeriod 3 n)) ∧ w' = w := by
 refine enterV Tryz.func33 rfl [nt 3, nt n] 12 rfl rfl rfl ?_
 refine V_pick [(0, nt 3), (1, nt n)] rfl ?_
 refine V_seq ?_
 refine V_region ?_
 refine OI_static 1 [(0, nt 3), (1, nt n)] (by kernel_rfl) ?_
 refine OI_end rfl ?_
 refine X_then ?_
 refine V_seq ?_
 refine V_seq ?_
 refine V_region ?_
 refine OI_static 2 [(0, nt 3), (1, nt n), (6, .bool false)] (by kernel_rfl) ?_
 refine OI_end rfl ?_
 refine X_then ?_
 refine V_false rfl ?_
 refine V_skip ?_
 refine X_then ?_
 refine V_seq ?_
 refine V_region ?_
 refine OI_static 6 [(4, nt (IntKind.i64.wrap (n * 2 ^ 2)))] (by kernel_rfl) ?_
 refine OI_end rfl ?_
 refine X_then ?_
 refine V_ret ?_
 exact X_return (nt (IntKind.i64.wrap (n * 2 ^ 2))) rfl ⟨rfl, rfl⟩

set_option maxRecDepth 10000 in
theorem rPeriod_4 (n : Int) (w : World) : Calls Tryz.prog 33 #[.int .i64 4, .int .i64 n] w fun e w' => e = .returned (.int .i64 (cvPeriod 4 n)) ∧ w' = w := by
 refine enterV Tryz.func33 rfl [nt 4, nt n] 12 rfl rfl rfl ?_
 refine V_pick [(0, nt 4), (1, nt n)] rfl ?_
 refine V_seq ?_
 refine V_region ?_
 refine OI_static 1 [(0, nt 4), (1, nt n)] (by kernel_rfl) ?_
 refine OI_end rfl ?_
 refine X_then ?_
 refine V_seq ?_
 refine V_seq ?_
 refine V_region ?_
 refine OI_static 2 [(0, nt 4), (1, nt n), (6, .bool false)] (by kernel_rfl) ?_
 refine OI_end rfl ?_
 refine X_then ?_
 refine V_false rfl ?_
 refine V_skip ?_
 refine X_then ?_
 refine V_seq ?_
 refine V_region ?_
 refine OI_static 6 [(4, nt (IntKind.i64.wrap (n * 2 ^ 3)))] (by kernel_rfl) ?_
 refine OI_end rfl ?_
 refine X_then ?_
 refine V_ret ?_
 exact X_return (nt (IntKind.i64.wrap (n * 2 ^ 3))) rfl ⟨rfl, rfl⟩

set_option maxRecDepth 10000 in
theorem rPeriod_5 (n : Int) (w : World) : Calls Tryz.prog 33 #[.int .i64 5, .int .i64 n] w fun e w' => e = .returned (.int .i64 (cvPeriod 5 n)) ∧ w' = w := by
 refine enterV Tryz.func33 rfl [nt 5, nt n] 12 rfl rfl rfl ?_
 refine V_pick [(0, nt 5), (1, nt n)] rfl ?_
 refine V_seq ?_
 refine V_region ?_
 refine OI_static 1 [(0, nt 5), (1, nt n)] (by kernel_rfl) ?_
 refine OI_end rfl ?_
 refine X_then ?_
 refine V_seq ?_
 refine V_seq ?_
 refine V_region ?_
 refine OI_static 2 [(0, nt 5), (1, nt n), (6, .bool false)] (by kernel_rfl) ?_
 refine OI_end rfl ?_
 refine X_then ?_
 refine V_false rfl ?_
 refine V_skip ?_
 refine X_then ?_
 refine V_seq ?_
 refine V_region ?_
 refine OI_static 6 [(4, nt (IntKind.i64.wrap (n * 2 ^ 4)))] (by kernel_rfl) ?_
 refine OI_end rfl ?_
 refine X_then ?_
 refine V_ret ?_
 exact X_return (nt (IntKind.i64.wrap (n * 2 ^ 4))) rfl ⟨rfl, rfl⟩

set_option maxRecDepth 10000 in
theorem rPeriod_6 (n : Int) (w : World) : Calls Tryz.prog 33 #[.int .i64 6, .int .i64 n] w fun e w' => e = .returned (.int .i64 (cvPeriod 6 n)) ∧ w' = w := by
 refine enterV Tryz.func33 rfl [nt 6, nt n] 12 rfl rfl rfl ?_
 refine V_pick [(0, nt 6), (1, nt n)] rfl ?_
 refine V_seq ?_
 refine V_region ?_
 refine OI_static 1 [(0, nt 6), (1, nt n)] (by kernel_rfl) ?_
 refine OI_end rfl ?_
 refine X_then ?_
 refine V_seq ?_
 refine V_seq ?_
 refine V_region ?_
 refine OI_static 2 [(0, nt 6), (1, nt n), (6, .bool false)] (by kernel_rfl) ?_
 refine OI_end rfl ?_
 refine X_then ?_
 refine V_false rfl ?_
 refine V_skip ?_
 refine X_then ?_
 refine V_seq ?_
 refine V_region ?_
 refine OI_static 6 [(4, nt (IntKind.i64.wrap (n * 2 ^ 5)))] (by kernel_rfl) ?_
 refine OI_end rfl ?_
 refine X_then ?_
 refine V_ret ?_
 exact X_return (nt (IntKind.i64.wrap (n * 2 ^ 5))) rfl ⟨rfl, rfl⟩

theorem rPeriod_spec (level n : Int) (w : World) (h : 0 ≤ level ∧ level ≤ 6) : Calls Tryz.prog 33 #[.int .i64 level, .int .i64 n] w fun e w' => e = .returned (.int .i64 (cvPeriod level n)) ∧ w' = w := by
  rcases (by omega : level = 0 ∨ level = 1 ∨ level = 2 ∨ level = 3 ∨ level = 4 ∨ level = 5 ∨ level = 6) with rfl | rfl | rfl | rfl | rfl | rfl | rfl
  · exact rPeriod_0 n w
  · exact rPeriod_1 n w
  · exact rPeriod_2 n w
  · exact rPeriod_3 n w
  · exact rPeriod_4 n w
  · exact rPeriod_5 n w
  · exact rPeriod_6 n w

end Go.Al


namespace Go.Al
open Go Go.RowKit Go.Proofs
end Go.Al


namespace Go.Al
open Go Go.RowKit Go.Proofs
set_option maxRecDepth 10000 in
theorem rnew6_weak (A : Option Addr) (cap : Nat) (fs : List Int) (w : World) (hA0 : ArgT w 1 intc A cap fs) (hn : fs.length ≤ 100000) : Calls Tryz.prog 41 #[.slice A fs.length cap] w fun e w' => ∃ pv n, e = .returned (.tuple #[.pointer pv, .int .i64 n]) ∧ Keep none_ w w' := by
 have hA := hA0
 have hK0 : Keep none_ w w := Keep.refl _ _
 have hzhK0 := Keep.size hK0
 refine enterV Tryz.func41 rfl [.slice A fs.length cap] 51 rfl rfl rfl ?_
 refine V_pick [(0, .slice A fs.length cap)] rfl ?_
 refine V_seq ?_
 refine V_region ?_
 refine OI_static 2 [(0, .slice A fs.length cap)] (by kernel_rfl) ?_
 refine OI_end rfl ?_
 refine X_then ?_
 refine V_seq ?_
 refine V_seq ?_
 refine V_region ?_
 refine OI_static 3 [(0, .slice A fs.length cap), (9, .bool (decide (((fs.length : Nat) : Int) > 10)))] (by kernel_rfl) ?_
 refine OI_end rfl ?_
 refine X_then ?_
 refine V_if (((fs.length : Nat) : Int) > 10) (by kernel_rfl) (fun hc1 => ?_) (fun hc1 => ?_)
 ·
  refine V_seq ?_
  refine V_region ?_
  refine OI_static 2 [(2, .pointer none), (3, nt 1)] (by kernel_rfl) ?_
  refine OI_end rfl ?_
  refine X_then ?_
  refine V_ret ?_
  refine X_ret_then ?_
  exact X_return (.tuple #[.pointer none, nt 1]) rfl ⟨_, _, rfl, hK0⟩
 ·
  refine V_skip ?_
  refine X_then ?_
  refine V_seq ?_
  refine V_region ?_
  refine OI_make (E := 138) (sz := 3) (by_ := 40) (m := 10) (kd := .i64) (zv := .agg #[nt 0, nt 0, .slice none 0 0]) 133 (.const (Value.int IntKind.i64 10)) (.const (Value.int IntKind.i64 10)) ((List.replicate 10 [nt 0, nt 0, .slice none 0 0]).flatten) (some 10) (by kernel_rfl) (by kernel_rfl) (by kernel_rfl) (by kernel_rfl) (by kernel_rfl) (by decide) (by decide) (by kernel_rfl) ?_
  intro b2 w2 e2 hb2 k2 z2
  have hsz3 := Keep.size k2
  replace hA := ArgT.keep0 hA k2
  replace hK0 := Keep.tr hK0 (Keep.ofNone k2)
  have hb2lt := hb2.lt
  refine OI_static 2 [(0, .slice A fs.length cap), (11, .agg #[.slice (some ⟨b2, 0, none⟩) 10 10])] (by kernel_rfl) ?_
  refine OI_box 135 (.tmp 11) (.agg #[.slice (some ⟨b2, 0, none⟩) 10 10]) [.slice (some ⟨b2, 0, none⟩) 10 10] (some 12) (by kernel_rfl) (by kernel_rfl) (by kernel_rfl) ?_
  intro b4 w4 e4 hb4 k4 z4
  have hsz5 := Keep.size k4
  replace hb2 := hb2.keep k4 (fun f => f)
  replace hA := ArgT.keep0 hA k4
  replace hK0 := Keep.tr hK0 (Keep.ofNone k4)
  have hb4lt := hb4.lt
  refine OI_static 4 [(0, .slice A fs.length cap), (4, pt b4)] (by kernel_rfl) ?_
  refine OI_end rfl ?_
  refine X_then ?_
  refine V_seq ?_
  refine V_region ?_
  refine OI_static 1 [(0, .slice A fs.length cap), (4, pt b4), (5, nt 0)] (by kernel_rfl) ?_
  refine OI_end rfl ?_
  refine X_then ?_
  refine V_seq ?_
  refine V_seq ?_
  refine V_region ?_
  refine OI_static 1 [(0, .slice A fs.length cap), (4, pt b4), (5, nt 0), (6, nt 0)] (by kernel_rfl) ?_
  refine OI_end rfl ?_
  refine X_then ?_
  refine V_block ?_
  refine V_pick [(0, .slice A fs.length cap), (4, pt b4), (5, nt 0), (6, nt 0)] rfl ?_
  refine V_loop (fun k wI e => ∃ i : Nat, ∃ s5 : Int, ∃ Lx : List Value, (k + i = fs.length) ∧ (Blk wI b2 Lx 138) ∧ (Lx.length = 30) ∧ Keep (only b2) w4 wI ∧ e = [(0, .slice A fs.length cap), (4, pt b4), (5, nt s5), (6, nt ((i : Nat) : Int))]) fs.length ⟨0, 0, (List.replicate 10 [nt 0, nt 0, .slice none 0 0]).flatten, by omega, hb2, by decide, Keep.refl _ _, rfl⟩ ?_
  rintro k7 w6 _ ⟨i, s5, Lx, hki, hB, hLx, hk8, rfl⟩
  have hsz9 := Keep.size hk8
  replace hb4 := hb4.keep hk8 (by show ¬ (_ = _); omega)
  replace hA := ArgT.keep hA hk8 hA0 (fun k hk hs => by have hs : k = b2 := hs; omega)
  replace hK0 := Keep.fresh hK0 hk8 (by intro i hi hs; first | exact hs | exact Or.inl hs | exact Or.inr hs | (exfalso; have hs2 : i = b2 := hs; omega))
  have hzhk8 := Keep.size hk8
  have hb2lt := hB.lt
  refine V_seq ?_
  refine V_seq ?_
  refine V_region ?_
  refine OI_static 4 [(0, .slice A fs.length cap), (4, pt b4), (5, nt s5), (6, nt ((i : Nat) : Int)), (16, .bool (decide (((i : Nat) : Int) < ((fs.length : Nat) : Int))))] (by kernel_rfl) ?_
  refine OI_end rfl ?_
  refine X_then ?_
  refine V_if (((i : Nat) : Int) < ((fs.length : Nat) : Int)) (by kernel_rfl) (fun hc10 => ?_) (fun hc10 => ?_)
  ·
   refine V_skip ?_
   refine X_then ?_
   refine V_seq ?_
   refine V_block ?_
   refine V_seq ?_
   refine V_seq ?_
   refine V_region ?_
   refine OI_static 2 [(0, .slice A fs.length cap), (4, pt b4), (5, nt s5), (6, nt ((i : Nat) : Int)), (19, .slice A fs.length cap), (20, nt ((i : Nat) : Int))] (by kernel_rfl) ?_
   obtain ⟨b11, o11, L11, rfl, hat11⟩ := ArgT.open_ hA (by first | omega | (simp only [List.length_map]; omega) | (simp; done) | (simp; omega))
   have hb11lt0 := ArgT.lt hA0 (by first | omega | (simp only [List.length_map]; omega) | (simp; done) | (simp; omega))
   have hb11lt := hat11.blk.lt
   refine OI_pure (some 21) (.indexAddr 28 (.tmp 19) (.tmp 20)) (by kernel_rfl) (pure_idxN (b := b11) (o := o11) (len := fs.length) (cap := cap) (kd := .i64) (j := i) (E := 3) (sz := 1) (by_ := 8) (by kernel_rfl) (by kernel_rfl) (by kernel_rfl) (by omega)) ?_
   obtain ⟨x12, hx13⟩ : ∃ x, fs[i]? = some x := ⟨_, List.getElem?_eq_getElem (by first | omega | (simp only [List.length_map]; omega))⟩
   refine OI_cellR 3 (.tmp 21) (o11 + i * 1) (nt x12) (some 22) (by kernel_rfl) (by kernel_rfl) hat11.blk (m := 1) (by kernel_rfl) (AtR.cell0 hat11 (es_at hx13) rfl) ?_
   refine OI_static 6 [(0, .slice (some ⟨b11, o11, none⟩) fs.length cap), (4, pt b4), (5, nt s5), (6, nt ((i : Nat) : Int)), (24, .bool (decide (x12 < 0)))] (by kernel_rfl) ?_
   by_cases hg14 : x12 < 0
   ·
    refine OI_eq [(0, .slice (some ⟨b11, o11, none⟩) fs.length cap), (4, pt b4), (5, nt s5), (6, nt ((i : Nat) : Int)), (24, .bool true)] (by first | simp [hg14] | rfl) ?_
    refine OI_static 12 [(0, .slice (some ⟨b11, o11, none⟩) fs.length cap), (4, pt b4), (5, nt s5), (6, nt ((i : Nat) : Int)), (25, undef), (26, undef), (27, undef), (28, undef), (29, undef), (30, .bool true)] (by kernel_rfl) ?_
    refine OI_end rfl ?_
    refine X_then ?_
    refine V_true rfl ?_
    refine V_seq ?_
    refine V_region ?_
    refine OI_static 2 [(2, .pointer none), (3, nt 1)] (by kernel_rfl) ?_
    refine OI_end rfl ?_
    refine X_then ?_
    refine V_ret ?_
    refine X_ret_then ?_
    refine X_ret_block ?_
    refine X_ret_then ?_
    refine X_ret_then ?_
    refine X_ret_block ?_
    refine X_ret_then ?_
    exact X_return (.tuple #[.pointer none, nt 1]) rfl ⟨_, _, rfl, hK0⟩
   ·
    refine OI_eq [(0, .slice (some ⟨b11, o11, none⟩) fs.length cap), (4, pt b4), (5, nt s5), (6, nt ((i : Nat) : Int)), (24, .bool false)] (by first | simp [hg14] | rfl) ?_
    refine OI_static 8 [(0, .slice (some ⟨b11, o11, none⟩) fs.length cap), (4, pt b4), (5, nt s5), (6, nt ((i : Nat) : Int)), (24, .bool false), (25, .slice (some ⟨b11, o11, none⟩) fs.length cap), (26, nt ((i : Nat) : Int))] (by kernel_rfl) ?_
    refine OI_pure (some 27) (.indexAddr 28 (.tmp 25) (.tmp 26)) (by kernel_rfl) (pure_idxN (b := b11) (o := o11) (len := fs.length) (cap := cap) (kd := .i64) (j := i) (E := 3) (sz := 1) (by_ := 8) (by kernel_rfl) (by kernel_rfl) (by kernel_rfl) (by omega)) ?_
    refine OI_cellR 3 (.tmp 27) (o11 + i * 1) (nt x12) (some 28) (by kernel_rfl) (by kernel_rfl) hat11.blk (m := 1) (by kernel_rfl) (AtR.cell0 hat11 (es_at hx13) rfl) ?_
    refine OI_static 12 [(0, .slice (some ⟨b11, o11, none⟩) fs.length cap), (4, pt b4), (5, nt s5), (6, nt ((i : Nat) : Int)), (25, .slice (some ⟨b11, o11, none⟩) fs.length cap), (26, nt ((i : Nat) : Int)), (27, .pointer (some ⟨b11, o11 + i * 1, none⟩)), (28, nt x12), (29, .bool (decide (x12 > 1073741824))), (30, .bool (decide (x12 > 1073741824)))] (by kernel_rfl) ?_
    refine OI_end rfl ?_
    refine X_then ?_
    refine V_if (x12 > 1073741824) (by kernel_rfl) (fun hc15 => ?_) (fun hc15 => ?_)
    ·
     refine V_seq ?_
     refine V_region ?_
     refine OI_static 2 [(2, .pointer none), (3, nt 1)] (by kernel_rfl) ?_
     refine OI_end rfl ?_
     refine X_then ?_
     refine V_ret ?_
     refine X_ret_then ?_
     refine X_ret_block ?_
     refine X_ret_then ?_
     refine X_ret_then ?_
     refine X_ret_block ?_
     refine X_ret_then ?_
     exact X_return (.tuple #[.pointer none, nt 1]) rfl ⟨_, _, rfl, hK0⟩
    ·
     refine V_skip ?_
     refine X_then ?_
     refine V_seq ?_
     refine V_draws (acts [11]) (only b2) [[0, 1, 2, 3, 4, 5, 6, 7, 8, 9, 10, 11]] (by kernel_rfl) (by repeat first | exact sure_body (by rintro _ _ ⟨_, _, h, _⟩; exact ⟨_, h⟩) | refine sure_then ?_ | refine sure_block ?_ | refine sure_join ?_) (by kernel_rfl) ?_
     intro w17 hk16 he18 L hL19
     have hsz20 := Keep.size hk16
     replace hB := hB.keep hk16 (fun f => f)
     replace hb4 := hb4.keep hk16 (fun f => f)
     replace hat11 := hat11.keep hk16 (fun f => f)
     replace hK0 := Keep.tr hK0 (Keep.ofNone hk16)
     replace hk8 := Keep.tr hk8 (Keep.ofNone hk16)
     have qhB := hB
     have qhb4 := hb4
     have qhat11 := hat11
     have K21 : Keep (only b2) w17 w17 := Keep.refl _ _
     obtain rfl := List.mem_singleton.1 hL19
     refine GI_static [3, 4, 5, 6, 7, 8, 9, 10, 11] [(0, .slice (some ⟨b11, o11, none⟩) fs.length cap), (4, pt b4), (5, nt s5), (6, nt ((i : Nat) : Int)), (25, .slice (some ⟨b11, o11, none⟩) fs.length cap), (26, nt ((i : Nat) : Int)), (27, .pointer (some ⟨b11, o11 + i * 1, none⟩)), (28, nt x12), (29, .bool (decide (x12 > 1073741824))), (33, pt b4)] (by kernel_rfl) ?_
     refine GI_cell 133 (.tmp 33) 0 (.slice (some ⟨b2, 0, none⟩) 10 10) (some 34) (by kernel_rfl) (by kernel_rfl) (by kernel_rfl) qhb4 (by show ¬ (_ = _); omega) (m := 1) (by kernel_rfl) rfl ?_
     refine GI_static [7, 8, 9, 10, 11] [(0, .slice (some ⟨b11, o11, none⟩) fs.length cap), (4, pt b4), (5, nt s5), (6, nt ((i : Nat) : Int)), (25, .slice (some ⟨b11, o11, none⟩) fs.length cap), (26, nt ((i : Nat) : Int)), (27, .pointer (some ⟨b11, o11 + i * 1, none⟩)), (28, nt x12), (29, .bool (decide (x12 > 1073741824))), (34, .slice (some ⟨b2, 0, none⟩) 10 10), (35, nt ((i : Nat) : Int)), (36, .slice (some ⟨b11, o11, none⟩) fs.length cap), (37, nt ((i : Nat) : Int))] (by kernel_rfl) ?_
     refine GI_pure (some 38) (.indexAddr 28 (.tmp 36) (.tmp 37)) (by kernel_rfl) (by kernel_rfl) (pure_idxN (b := b11) (o := o11) (len := fs.length) (cap := cap) (kd := .i64) (j := i) (E := 3) (sz := 1) (by_ := 8) (by kernel_rfl) (by kernel_rfl) (by kernel_rfl) (by omega)) ?_
     refine GI_cellR 3 (.tmp 38) (o11 + i * 1) (nt x12) (some 39) (by kernel_rfl) (by kernel_rfl) (by kernel_rfl) qhat11.blk (by show ¬ (_ = _); omega) (m := 1) (by kernel_rfl) (AtR.cell0 qhat11 (es_at hx13) rfl) ?_
     refine GI_pure (some 40) (.indexAddr 133 (.tmp 34) (.tmp 35)) (by kernel_rfl) (by kernel_rfl) (pure_idxN (b := b2) (o := 0) (len := 10) (cap := 10) (kd := .i64) (j := i) (E := 138) (sz := 3) (by_ := 40) (by kernel_rfl) (by kernel_rfl) (by kernel_rfl) (by omega)) ?_
     refine GI_static [11] [(0, .slice (some ⟨b11, o11, none⟩) fs.length cap), (4, pt b4), (5, nt s5), (6, nt ((i : Nat) : Int)), (25, .slice (some ⟨b11, o11, none⟩) fs.length cap), (26, nt ((i : Nat) : Int)), (27, .pointer (some ⟨b11, o11 + i * 1, none⟩)), (28, nt x12), (29, .bool (decide (x12 > 1073741824))), (39, nt x12), (41, .pointer (some ⟨b2, 0 + i * 3, none⟩))] (by kernel_rfl) ?_
     refine GI_final 11 (by kernel_rfl) (by kernel_rfl) ?_
     refine OI_set (m := 1) (kd := false) 3 (.tmp 41) (.tmp 39) (0 + i * 3) (nt x12) [nt x12] none (by kernel_rfl) (by kernel_rfl) (by kernel_rfl) hB (by kernel_rfl) (by kernel_rfl) (by kernel_rfl) (by rw [hLx]; show 0 + i * 3 + 1 ≤ 30; omega) (by simp [Value.oneCell']) ?_
     intro w22 hb2_25 hk23 hz24
     replace hb2_25 : Blk w22 b2 (over Lx (0 + i * 3) [nt x12]) 138 := hb2_25
     have hsz26 := Keep.size hk23
     replace hb4 := hb4.keep hk23 (by show ¬ (_ = _); omega)
     replace hat11 := hat11.keep hk23 (by show ¬ (_ = _); omega)
     replace hK0 := Keep.fresh hK0 hk23 (by intro i hi hs; first | exact hs | exact Or.inl hs | exact Or.inr hs | (exfalso; have hs2 : i = b2 := hs; omega))
     replace hk8 := Keep.fresh hk8 hk23 (by intro i hi hs; first | exact hs | exact Or.inl hs | exact Or.inr hs | (exfalso; have hs2 : i = b2 := hs; omega))
     refine OI_end rfl ?_
     refine X_then ?_
     refine V_region ?_
     refine OI_static 3 [(0, .slice (some ⟨b11, o11, none⟩) fs.length cap), (4, pt b4), (6, nt ((i : Nat) : Int)), (25, .slice (some ⟨b11, o11, none⟩) fs.length cap), (26, nt ((i : Nat) : Int)), (27, .pointer (some ⟨b11, o11 + i * 1, none⟩)), (28, nt x12), (29, .bool (decide (x12 > 1073741824))), (42, nt s5), (43, .slice (some ⟨b11, o11, none⟩) fs.length cap), (44, nt ((i : Nat) : Int))] (by kernel_rfl) ?_
     refine OI_pure (some 45) (.indexAddr 28 (.tmp 43) (.tmp 44)) (by kernel_rfl) (pure_idxN (b := b11) (o := o11) (len := fs.length) (cap := cap) (kd := .i64) (j := i) (E := 3) (sz := 1) (by_ := 8) (by kernel_rfl) (by kernel_rfl) (by kernel_rfl) (by omega)) ?_
     refine OI_cellR 3 (.tmp 45) (o11 + i * 1) (nt x12) (some 46) (by kernel_rfl) (by kernel_rfl) hat11.blk (m := 1) (by kernel_rfl) (AtR.cell0 hat11 (es_at hx13) rfl) ?_
     refine OI_static 7 [(0, .slice (some ⟨b11, o11, none⟩) fs.length cap), (4, pt b4), (5, nt (IntKind.i64.wrap (s5 + x12))), (6, nt ((i : Nat) : Int)), (25, .slice (some ⟨b11, o11, none⟩) fs.length cap), (26, nt ((i : Nat) : Int)), (27, .pointer (some ⟨b11, o11 + i * 1, none⟩)), (28, nt x12), (29, .bool (decide (x12 > 1073741824)))] (by kernel_rfl) ?_
     refine OI_end rfl ?_
     refine X_block ?_
     refine X_then ?_
     refine V_region ?_
     have hw27 : IntKind.i64.wrap (((i : Nat) : Int) + 1) = ((i + 1 : Nat) : Int) := (wrap64_id (by omega) (by omega)).trans (by omega)
     refine OI_static 2 [(0, .slice (some ⟨b11, o11, none⟩) fs.length cap), (4, pt b4), (5, nt (IntKind.i64.wrap (s5 + x12))), (18, nt (IntKind.i64.wrap (((i : Nat) : Int) + 1))), (25, .slice (some ⟨b11, o11, none⟩) fs.length cap), (26, nt ((i : Nat) : Int)), (27, .pointer (some ⟨b11, o11 + i * 1, none⟩)), (28, nt x12), (29, .bool (decide (x12 > 1073741824)))] (by kernel_rfl) ?_
     refine OI_eq [(0, .slice (some ⟨b11, o11, none⟩) fs.length cap), (4, pt b4), (5, nt (IntKind.i64.wrap (s5 + x12))), (18, nt ((i + 1 : Nat) : Int)), (25, .slice (some ⟨b11, o11, none⟩) fs.length cap), (26, nt ((i : Nat) : Int)), (27, .pointer (some ⟨b11, o11 + i * 1, none⟩)), (28, nt x12), (29, .bool (decide (x12 > 1073741824)))] (by rw [hw27]) ?_
     refine OI_static 3 [(0, .slice (some ⟨b11, o11, none⟩) fs.length cap), (4, pt b4), (5, nt (IntKind.i64.wrap (s5 + x12))), (6, nt ((i + 1 : Nat) : Int)), (25, .slice (some ⟨b11, o11, none⟩) fs.length cap), (26, nt ((i : Nat) : Int)), (27, .pointer (some ⟨b11, o11 + i * 1, none⟩)), (28, nt x12), (29, .bool (decide (x12 > 1073741824)))] (by kernel_rfl) ?_
     refine OI_end rfl ?_
     exact V_again (k7 - 1) (by omega) [(0, .slice (some ⟨b11, o11, none⟩) fs.length cap), (4, pt b4), (5, nt (IntKind.i64.wrap (s5 + x12))), (6, nt ((i + 1 : Nat) : Int))] rfl ⟨i + 1, IntKind.i64.wrap (s5 + x12), (over Lx (0 + i * 3) [nt x12]), by omega, hb2_25, by rw [over_length (by rw [hLx]; show 0 + i * 3 + 1 ≤ 30; omega)]; exact hLx, hk8, rfl⟩
  ·
   refine V_exit ?_
   refine X_exit_then ?_
   refine X_exit_then ?_
   refine X_exit_here ?_
   refine X_then ?_
   refine V_seq ?_
   refine V_seq ?_
   refine V_region ?_
   refine OI_static 2 [(4, pt b4), (49, .bool (decide (s5 > 1073741824)))] (by kernel_rfl) ?_
   refine OI_end rfl ?_
   refine X_then ?_
   refine V_if (s5 > 1073741824) (by kernel_rfl) (fun hc28 => ?_) (fun hc28 => ?_)
   ·
    refine V_seq ?_
    refine V_region ?_
    refine OI_static 2 [(2, .pointer none), (3, nt 1)] (by kernel_rfl) ?_
    refine OI_end rfl ?_
    refine X_then ?_
    refine V_ret ?_
    refine X_ret_then ?_
    exact X_return (.tuple #[.pointer none, nt 1]) rfl ⟨_, _, rfl, hK0⟩
   ·
    refine V_skip ?_
    refine X_then ?_
    refine V_seq ?_
    refine V_region ?_
    refine OI_static 3 [(2, pt b4), (3, nt 0)] (by kernel_rfl) ?_
    refine OI_end rfl ?_
    refine X_then ?_
    refine V_ret ?_
    exact X_return (.tuple #[pt b4, nt 0]) rfl ⟨_, _, rfl, hK0⟩

set_option maxRecDepth 10000 in
theorem rnew11_weak (w : World) : Calls Tryz.prog 43 #[] w fun e w' => ∃ pv, e = .returned (.pointer pv) ∧ Keep none_ w w' := by
 have hK0 : Keep none_ w w := Keep.refl _ _
 have hzhK0 := Keep.size hK0
 refine enterV Tryz.func43 rfl [] 5 rfl rfl rfl ?_
 refine V_pick [] rfl ?_
 refine V_seq ?_
 refine V_region ?_
 refine OI_static 1 [] (by kernel_rfl) ?_
 refine OI_end rfl ?_
 refine X_then ?_
 refine V_seq ?_
 refine V_draws (acts [0, 1, 3]) none_ [[0, 1, 2, 3, 4], [1, 0, 2, 3, 4]] (by kernel_rfl) (by repeat first | exact sure_body (by rintro _ _ ⟨_, h, _⟩; exact ⟨_, h⟩) | refine sure_then ?_ | refine sure_block ?_ | refine sure_join ?_) (by kernel_rfl) ?_
 intro w2 hk1 he3 L hL4
 have hsz5 := Keep.size hk1
 replace hK0 := Keep.tr hK0 (Keep.ofNone hk1)
 have K6 : Keep none_ w2 w2 := Keep.refl _ _
 simp only [List.mem_cons, List.not_mem_nil, or_false] at hL4
 rcases hL4 with rfl | rfl
 ·
  refine GI_make (E := 73) (sz := 7) (by_ := 56) (m := 12) (kd := .i64) (zv := .agg #[.bool false, nt 0, nt 0, nt 0, nt 0, nt 0, nt 0]) 74 (.const (Value.int IntKind.i64 12)) (.const (Value.int IntKind.i64 12)) ((List.replicate 12 [.bool false, nt 0, nt 0, nt 0, nt 0, nt 0, nt 0]).flatten) (some 1) (by kernel_rfl) (by kernel_rfl) K6 (by kernel_rfl) (by kernel_rfl) (by kernel_rfl) (by kernel_rfl) (by decide) (by decide) (by kernel_rfl) ?_
  intro b7 w7 e7 hb7 k7 z7 K8
  have hsz9 := Keep.size k7
  replace hK0 := Keep.tr hK0 (Keep.ofNone k7)
  have hb7lt := hb7.lt
  refine GI_make (E := 167) (sz := 9) (by_ := 88) (m := 40) (kd := .i64) (zv := .agg #[.slice none 0 0, .bool false, nt 0, nt 0, nt 0, nt 0, nt 0, nt 0, nt 0]) 75 (.const (Value.int IntKind.i64 40)) (.const (Value.int IntKind.i64 40)) ((List.replicate 40 [.slice none 0 0, .bool false, nt 0, nt 0, nt 0, nt 0, nt 0, nt 0, nt 0]).flatten) (some 2) (by kernel_rfl) (by kernel_rfl) K8 (by kernel_rfl) (by kernel_rfl) (by kernel_rfl) (by kernel_rfl) (by decide) (by decide) (by kernel_rfl) ?_
  intro b10 w10 e10 hb10 k10 z10 K11
  have hsz12 := Keep.size k10
  replace hb7 := hb7.keep k10 (fun f => f)
  replace hK0 := Keep.tr hK0 (Keep.ofNone k10)
  have hb10lt := hb10.lt
  refine GI_static [3, 4] [(3, .agg #[.slice (some ⟨b7, 0, none⟩) 12 12, .slice (some ⟨b10, 0, none⟩) 40 40])] (by kernel_rfl) ?_
  refine GI_box 77 (.tmp 3) (.agg #[.slice (some ⟨b7, 0, none⟩) 12 12, .slice (some ⟨b10, 0, none⟩) 40 40]) [.slice (some ⟨b7, 0, none⟩) 12 12, .slice (some ⟨b10, 0, none⟩) 40 40] (some 4) (by kernel_rfl) (by kernel_rfl) K11 (by kernel_rfl) (by kernel_rfl) ?_
  intro b13 w13 e13 hb13 k13 z13 K14
  have hsz15 := Keep.size k13
  replace hb7 := hb7.keep k13 (fun f => f)
  replace hb10 := hb10.keep k13 (fun f => f)
  replace hK0 := Keep.tr hK0 (Keep.ofNone k13)
  have hb13lt := hb13.lt
  refine GI_static [] [(0, pt b13)] (by kernel_rfl) ?_
  refine GI_end ?_
  refine X_then ?_
  refine V_ret ?_
  exact X_return _ rfl ⟨_, rfl, hK0⟩
 ·
  refine GI_make (E := 167) (sz := 9) (by_ := 88) (m := 40) (kd := .i64) (zv := .agg #[.slice none 0 0, .bool false, nt 0, nt 0, nt 0, nt 0, nt 0, nt 0, nt 0]) 75 (.const (Value.int IntKind.i64 40)) (.const (Value.int IntKind.i64 40)) ((List.replicate 40 [.slice none 0 0, .bool false, nt 0, nt 0, nt 0, nt 0, nt 0, nt 0, nt 0]).flatten) (some 2) (by kernel_rfl) (by kernel_rfl) K6 (by kernel_rfl) (by kernel_rfl) (by kernel_rfl) (by kernel_rfl) (by decide) (by decide) (by kernel_rfl) ?_
  intro b16 w16 e16 hb16 k16 z16 K17
  have hsz18 := Keep.size k16
  replace hK0 := Keep.tr hK0 (Keep.ofNone k16)
  have hb16lt := hb16.lt
  refine GI_make (E := 73) (sz := 7) (by_ := 56) (m := 12) (kd := .i64) (zv := .agg #[.bool false, nt 0, nt 0, nt 0, nt 0, nt 0, nt 0]) 74 (.const (Value.int IntKind.i64 12)) (.const (Value.int IntKind.i64 12)) ((List.replicate 12 [.bool false, nt 0, nt 0, nt 0, nt 0, nt 0, nt 0]).flatten) (some 1) (by kernel_rfl) (by kernel_rfl) K17 (by kernel_rfl) (by kernel_rfl) (by kernel_rfl) (by kernel_rfl) (by decide) (by decide) (by kernel_rfl) ?_
  intro b19 w19 e19 hb19 k19 z19 K20
  have hsz21 := Keep.size k19
  replace hb16 := hb16.keep k19 (fun f => f)
  replace hK0 := Keep.tr hK0 (Keep.ofNone k19)
  have hb19lt := hb19.lt
  refine GI_static [3, 4] [(3, .agg #[.slice (some ⟨b19, 0, none⟩) 12 12, .slice (some ⟨b16, 0, none⟩) 40 40])] (by kernel_rfl) ?_
  refine GI_box 77 (.tmp 3) (.agg #[.slice (some ⟨b19, 0, none⟩) 12 12, .slice (some ⟨b16, 0, none⟩) 40 40]) [.slice (some ⟨b19, 0, none⟩) 12 12, .slice (some ⟨b16, 0, none⟩) 40 40] (some 4) (by kernel_rfl) (by kernel_rfl) K20 (by kernel_rfl) (by kernel_rfl) ?_
  intro b22 w22 e22 hb22 k22 z22 K23
  have hsz24 := Keep.size k22
  replace hb16 := hb16.keep k22 (fun f => f)
  replace hb19 := hb19.keep k22 (fun f => f)
  replace hK0 := Keep.tr hK0 (Keep.ofNone k22)
  have hb22lt := hb22.lt
  refine GI_static [] [(0, pt b22)] (by kernel_rfl) ?_
  refine GI_end ?_
  refine X_then ?_
  refine V_ret ?_
  exact X_return _ rfl ⟨_, rfl, hK0⟩

def msk24 (fs : List Int) : List Int := fs.map fun x => bAnd x 16777215
theorem msk24_at {fs : List Int} {x : Int} (h : x ∈ msk24 fs) : 0 ≤ x ∧ x ≤ 16777215 := by
  obtain ⟨y, _, rfl⟩ := List.mem_map.1 h
  exact bAnd_le y 16777215 (by decide)
theorem msk24_step {fs : List Int} {i : Nat} {x : Int} (h : fs[i]? = some x) : msk24 (fs.take (i + 1)) = msk24 (fs.take i) ++ [bAnd x 16777215] := by
  obtain ⟨h1, rfl⟩ := List.getElem?_eq_some_iff.1 h
  unfold msk24; rw [List.take_succ_eq_append_getElem h1, List.map_append]; rfl
theorem tot_newX_step (fs : List Int) (n : Nat) : tot (newX fs (n + 1)) = tot (newX fs n) + (fs[n]?).getD 0 := by
  have happ : ∀ (a b : List Acc), tot (a ++ b) = tot a + tot b := by
    intro a b
    induction a with
    | nil => simp [tot]
    | cons y l ih => simp only [List.cons_append, tot, ih]; omega
  rw [newX_succ, happ]
  simp only [tot]
  omega
theorem newX_tot24 {fs : List Int} (h : ∀ x ∈ fs, 0 ≤ x ∧ x ≤ 16777215) : ∀ i : Nat, tot (newX fs i) ≤ i * 16777215
  | 0 => by simp [newX, tot]
  | i + 1 => by
    have ih := newX_tot24 h i
    rw [tot_newX_step]
    have : (fs[i]?).getD 0 ≤ 16777215 := by
      cases hf : fs[i]? with
      | none => simp
      | some x => exact (h x (List.mem_of_getElem? hf)).2
    omega
theorem msk24_ok {fs : List Int} (h : fs.length ≤ 10) : okP (msk24 fs) :=
  ⟨by simpa [msk24] using h, fun x hx => by have := msk24_at hx; omega, by have := newX_tot24 (fs := msk24 fs) (fun x hx => msk24_at hx) 10; omega⟩

set_option maxRecDepth 10000 in
theorem begin_weak (A : Option Addr) (cap : Nat) (fs : List Int) (w : World) (hA0 : ArgT w 1 intc A cap fs) (hn : fs.length ≤ 9223372036854775807) : Calls Tryz.prog 15 #[.slice A fs.length cap] w fun e w' => ∃ b v l F G xv yv, e = .returned (.pointer (some ⟨b, 0, none⟩)) ∧ Blk w' b [.pointer (some ⟨l, 0, none⟩), .pointer (some ⟨v, 0, none⟩), .pointer xv, .pointer yv, .int .i64 0] 35 ∧ VotT F w' v VS.zero ∧ Led G w' l (newX (msk24 (fs.take 10)) 10) [] ∧ Keep none_ w w' ∧ w.heap.size ≤ b ∧ (∀ q, F q → w.heap.size ≤ q ∧ q ≠ b) ∧ (∀ q, G q → w.heap.size ≤ q ∧ q ≠ b) ∧ (∀ q, F q → ¬ G q) := by
 have hA := hA0
 have hK0 : Keep none_ w w := Keep.refl _ _
 have hzhK0 := Keep.size hK0
 refine enterV Tryz.func15 rfl [.slice A fs.length cap] 58 rfl rfl rfl ?_
 refine V_pick [(0, .slice A fs.length cap)] rfl ?_
 refine V_seq ?_
 refine V_region ?_
 refine OI_static 1 [(0, .slice A fs.length cap)] (by kernel_rfl) ?_
 refine OI_end rfl ?_
 refine X_then ?_
 refine V_seq ?_
 refine V_region ?_
 refine OI_static 1 [(0, .slice A fs.length cap), (3, .slice none 0 0)] (by kernel_rfl) ?_
 refine OI_end rfl ?_
 refine X_then ?_
 refine V_seq ?_
 refine V_seq ?_
 refine V_region ?_
 refine OI_static 1 [(0, .slice A fs.length cap), (3, .slice none 0 0), (4, nt 0)] (by kernel_rfl) ?_
 refine OI_end rfl ?_
 refine X_then ?_
 refine V_block ?_
 refine V_pick [(0, .slice A fs.length cap), (3, .slice none 0 0), (4, nt 0)] rfl ?_
 refine V_loop (fun k wI e => ∃ i : Nat, ∃ A2 : Option Addr, ∃ cap2 : Nat, ∃ ms : List Int, (k + i = min fs.length 10) ∧ (ms = msk24 (fs.take i)) ∧ (SlT wI 1 intc A2 cap2 ms) ∧ (∀ q, inA A2 q → w.heap.size ≤ q) ∧ Keep none_ w wI ∧ e = [(0, .slice A fs.length cap), (3, .slice A2 ms.length cap2), (4, nt ((i : Nat) : Int))]) (min fs.length 10) ⟨0, none, 0, [], by omega, rfl, SlT.nil _ _ _, fun q h => (inA_none h).elim, Keep.refl _ _, rfl⟩ ?_
 rintro k2 w1 _ ⟨i, A2, cap2, ms, hki, hms, hA2, ow2, hk3, rfl⟩
 have hsz4 := Keep.size hk3
 replace hA := ArgT.keep0 hA hk3
 replace hK0 := Keep.tr hK0 (Keep.ofNone hk3)
 have hzhk3 := Keep.size hk3
 have lt2 := SlT.lt hA2
 have hml : ms.length = i := by rw [hms]; simp [msk24]; omega
 refine V_seq ?_
 refine V_seq ?_
 refine V_region ?_
 refine OI_static 5 [(0, .slice A fs.length cap), (3, .slice A2 ms.length cap2), (4, nt ((i : Nat) : Int)), (14, .bool (decide (((i : Nat) : Int) < ((fs.length : Nat) : Int))))] (by kernel_rfl) ?_
 by_cases hg5 : ((i : Nat) : Int) < ((fs.length : Nat) : Int)
 ·
  refine OI_eq [(0, .slice A fs.length cap), (3, .slice A2 ms.length cap2), (4, nt ((i : Nat) : Int)), (14, .bool true)] (by first | simp [hg5] | rfl) ?_
  refine OI_static 8 [(0, .slice A fs.length cap), (3, .slice A2 ms.length cap2), (4, nt ((i : Nat) : Int)), (15, nt ((i : Nat) : Int)), (16, .bool (decide (((i : Nat) : Int) < 10))), (17, .bool (decide (((i : Nat) : Int) < 10)))] (by kernel_rfl) ?_
  refine OI_end rfl ?_
  refine X_then ?_
  refine V_if (((i : Nat) : Int) < 10) (by kernel_rfl) (fun hc6 => ?_) (fun hc6 => ?_)
  ·
   refine V_skip ?_
   refine X_then ?_
   refine V_seq ?_
   refine V_block ?_
   refine V_region ?_
   refine OI_static 3 [(0, .slice A fs.length cap), (4, nt ((i : Nat) : Int)), (15, nt ((i : Nat) : Int)), (16, .bool (decide (((i : Nat) : Int) < 10))), (20, .slice A2 ms.length cap2), (21, .slice A fs.length cap), (22, nt ((i : Nat) : Int))] (by kernel_rfl) ?_
   obtain ⟨b7, o7, L7, rfl, hat7⟩ := ArgT.open_ hA (by first | omega | (simp only [List.length_map]; omega) | (simp; done) | (simp; omega))
   have hb7lt0 := ArgT.lt hA0 (by first | omega | (simp only [List.length_map]; omega) | (simp; done) | (simp; omega))
   have hb7lt := hat7.blk.lt
   refine OI_pure (some 23) (.indexAddr 28 (.tmp 21) (.tmp 22)) (by kernel_rfl) (pure_idxN (b := b7) (o := o7) (len := fs.length) (cap := cap) (kd := .i64) (j := i) (E := 3) (sz := 1) (by_ := 8) (by kernel_rfl) (by kernel_rfl) (by kernel_rfl) (by omega)) ?_
   obtain ⟨x8, hx9⟩ : ∃ x, fs[i]? = some x := ⟨_, List.getElem?_eq_getElem (by first | omega | (simp only [List.length_map]; omega))⟩
   refine OI_cellR 3 (.tmp 23) (o7 + i * 1) (nt x8) (some 24) (by kernel_rfl) (by kernel_rfl) hat7.blk (m := 1) (by kernel_rfl) (AtR.cell0 hat7 (es_at hx9) rfl) ?_
   refine OI_static 6 [(0, .slice (some ⟨b7, o7, none⟩) fs.length cap), (4, nt ((i : Nat) : Int)), (15, nt ((i : Nat) : Int)), (16, .bool (decide (((i : Nat) : Int) < 10))), (20, .slice A2 ms.length cap2), (25, nt (bAnd x8 16777215))] (by kernel_rfl) ?_
   refine OI_slit (E := 3) (zv := nt 0) (sz := 1) (by_ := 8) 28 1 #[(0, (Operand.tmp 25))] [nt (bAnd x8 16777215)] [nt (bAnd x8 16777215)] (some 26) (by kernel_rfl) (by kernel_rfl) (by kernel_rfl) (by omega) rfl (by omega) (by intro v hv; simp only [List.mem_cons, List.not_mem_nil, or_false] at hv; rcases hv with rfl <;> rfl) (by kernel_rfl) rfl ?_
   intro b10 w10 e10 hb10 k10 z10
   have hsz11 := Keep.size k10
   replace hat7 := hat7.keep k10 (fun f => f)
   replace hA2 := SlT.keep0 hA2 k10
   replace hK0 := Keep.tr hK0 (Keep.ofNone k10)
   replace hk3 := Keep.tr hk3 (Keep.ofNone k10)
   have hb10lt := hb10.lt
   refine OI_append (t := 28) (at2 := 28) (E := 3) (E2 := 3) (sz := 1) (by_ := 8) (zv := nt 0) (m := ms.length) (k := 1) (.tmp 20) (.tmp 26) (.slice A2 ms.length cap2) (.slice (some ⟨b10, 0, none⟩) 1 1) (some 27) (by kernel_rfl) (by kernel_rfl) (by kernel_rfl) (by kernel_rfl) (by kernel_rfl) (by kernel_rfl) (by kernel_rfl) (SlT.slr hA2) (slr_one hb10 (intc_len (bAnd x8 16777215))) (intc_one (bAnd x8 16777215)) (by first | omega | (simp only [List.length_nil]; omega)) (by omega) (by first | omega | (simp only [List.length_nil]; omega)) (by omega) ?_
   intro vv9 w12 hap
   obtain ⟨A12, cap12, rfl, hA12, hk12, own12x⟩ := app_one (f := intc) (xs := ms) (x := (bAnd x8 16777215)) (A := A2) (cap := cap2) hap (fun x _ => intc_len x) (intc_len _)
   have own12 : ∀ q, inA A12 q → w.heap.size ≤ q := fun q hq => by rcases own12x q hq with h | h; exact ow2 q h; (show w.heap.size ≤ q; omega)
   have hsz13 := Keep.size hk12
   replace hat7 := hat7.keep hk12 (fun hs => by have h1 := ow2 _ hs; have h2 := lt2 _ hs; omega)
   replace hK0 := Keep.fresh hK0 hk12 (by intro i hi hs; first | exact hs | (exfalso; have h1 := ow2 i hs; have h2 := lt2 i hs; omega) | (have h1 := ow2 i hs; have h2 := lt2 i hs; show _ ∨ _; omega))
   replace hk3 := Keep.fresh hk3 hk12 (by intro i hi hs; first | exact hs | (exfalso; have h1 := ow2 i hs; have h2 := lt2 i hs; omega) | (have h1 := ow2 i hs; have h2 := lt2 i hs; show _ ∨ _; omega))
   have lt12 := SlT.lt hA12
   refine OI_static 9 [(0, .slice (some ⟨b7, o7, none⟩) fs.length cap), (3, .slice A12 ((ms ++ [bAnd x8 16777215]).length) cap12), (4, nt ((i : Nat) : Int)), (15, nt ((i : Nat) : Int)), (16, .bool (decide (((i : Nat) : Int) < 10)))] (by kernel_rfl) ?_
   refine OI_end rfl ?_
   refine X_block ?_
   refine X_then ?_
   refine V_region ?_
   have hw14 : IntKind.i64.wrap (((i : Nat) : Int) + 1) = ((i + 1 : Nat) : Int) := (wrap64_id (by omega) (by omega)).trans (by omega)
   refine OI_static 2 [(0, .slice (some ⟨b7, o7, none⟩) fs.length cap), (3, .slice A12 ((ms ++ [bAnd x8 16777215]).length) cap12), (15, nt ((i : Nat) : Int)), (16, .bool (decide (((i : Nat) : Int) < 10))), (19, nt (IntKind.i64.wrap (((i : Nat) : Int) + 1)))] (by kernel_rfl) ?_
   refine OI_eq [(0, .slice (some ⟨b7, o7, none⟩) fs.length cap), (3, .slice A12 ((ms ++ [bAnd x8 16777215]).length) cap12), (15, nt ((i : Nat) : Int)), (16, .bool (decide (((i : Nat) : Int) < 10))), (19, nt ((i + 1 : Nat) : Int))] (by rw [hw14]) ?_
   refine OI_static 3 [(0, .slice (some ⟨b7, o7, none⟩) fs.length cap), (3, .slice A12 ((ms ++ [bAnd x8 16777215]).length) cap12), (4, nt ((i + 1 : Nat) : Int)), (15, nt ((i : Nat) : Int)), (16, .bool (decide (((i : Nat) : Int) < 10)))] (by kernel_rfl) ?_
   refine OI_end rfl ?_
   exact V_again (k2 - 1) (by omega) [(0, .slice (some ⟨b7, o7, none⟩) fs.length cap), (3, .slice A12 ((ms ++ [bAnd x8 16777215]).length) cap12), (4, nt ((i + 1 : Nat) : Int))] rfl ⟨i + 1, A12, cap12, ms ++ [bAnd x8 16777215], by omega, by rw [msk24_step hx9, ← hms], hA12, own12, hk3, rfl⟩
  ·
   refine V_exit ?_
   refine X_exit_then ?_
   refine X_exit_then ?_
   refine X_exit_here ?_
   refine X_then ?_
   refine V_seq ?_
   refine V_region ?_
   refine OI_static 1 [(3, .slice A2 ms.length cap2), (29, .slice A2 ms.length cap2)] (by kernel_rfl) ?_
   have hie : i = min fs.length 10 := by omega
   have htk : fs.take i = fs.take 10 := by rw [hie]; rcases Nat.le_total fs.length 10 with h9 | h9; (rw [Nat.min_eq_left h9, List.take_length, List.take_of_length_le h9]); rw [Nat.min_eq_right h9]
   rw [htk] at hms
   have hok9 := msk24_ok (fs := fs.take 10) (by rw [List.length_take]; omega)
   rw [← hms] at hok9
   refine OI_call { callee := (Callee.value (Operand.func 29)), args := #[(Operand.tmp 29)], argTypes := #[28] } 29 #[.slice A2 ms.length cap2] (some 30) (by kernel_rfl) (by kernel_rfl) (by kernel_rfl) (new_ok A2 cap2 ms _ (SlT.arg hA2) (by omega) hok9) ?_
   rintro _ w15 ⟨l17, F18, rfl, ho19, hk16, hge20⟩
   refine ⟨_, rfl, ?_⟩
   have hsz21 := Keep.size hk16
   replace hA := ArgT.keep0 hA hk16
   replace hA2 := SlT.keep0 hA2 hk16
   replace hK0 := Keep.tr hK0 (Keep.ofNone hk16)
   have own22 : ∀ q, F18 q → w1.heap.size ≤ q := fun q hq => by have h1 := hge20 q hq; omega
   have lt23 := Led.lt ho19
   have dis24 : ∀ q, F18 q → ¬ inA A2 q := fun q h1 h2 => by have h3 := hge20 q h1; have h4 := lt2 q h2; omega
   have hl17lt : l17 < w15.heap.size := Led.lt ho19 _ (Led.at_ ho19)
   have hl17ge := hge20 _ (Led.at_ ho19)
   refine OI_static 7 [(3, .slice A2 ms.length cap2), (5, pt l17), (6, nt 0)] (by kernel_rfl) ?_
   refine OI_end rfl ?_
   refine X_then ?_
   refine V_seq ?_
   refine V_region ?_
   refine OI_static 1 [(5, pt l17), (6, nt 0), (34, .slice A2 ms.length cap2)] (by kernel_rfl) ?_
   refine OI_call { callee := (Callee.value (Operand.func 41)), args := #[(Operand.tmp 34)], argTypes := #[28] } 41 #[.slice A2 ms.length cap2] (some 35) (by kernel_rfl) (by kernel_rfl) (by kernel_rfl) (rnew6_weak A2 cap2 ms _ (SlT.arg hA2) (by omega)) ?_
   rintro _ w25 ⟨pv27, n28, rfl, hk26⟩
   refine ⟨_, rfl, ?_⟩
   have hsz29 := Keep.size hk26
   replace hA := ArgT.keep0 hA hk26
   replace hA2 := SlT.keep0 hA2 hk26
   replace hK0 := Keep.tr hK0 (Keep.ofNone hk26)
   replace ho19 := Led.keep ho19 hk26 (fun _ _ f => f)
   refine OI_static 7 [(5, pt l17), (6, nt 0), (7, .pointer pv27)] (by kernel_rfl) ?_
   refine OI_end rfl ?_
   refine X_then ?_
   refine V_seq ?_
   refine V_region ?_
   refine OI_static 1 [(5, pt l17), (6, nt 0), (7, .pointer pv27), (38, pt l17)] (by kernel_rfl) ?_
   refine OI_call { callee := (Callee.value (Operand.func 42)), args := #[], argTypes := #[] } 42 #[] (some 39) (by kernel_rfl) (by kernel_rfl) (by kernel_rfl) (new_votT _) ?_
   rintro _ w32 ⟨g34, F35, rfl, ho36, hk33, hge37⟩
   refine ⟨_, rfl, ?_⟩
   have hsz38 := Keep.size hk33
   replace hA := ArgT.keep0 hA hk33
   replace hA2 := SlT.keep0 hA2 hk33
   replace hK0 := Keep.tr hK0 (Keep.ofNone hk33)
   replace ho19 := Led.keep ho19 hk33 (fun _ _ f => f)
   have own39 : ∀ q, F35 q → w25.heap.size ≤ q := fun q hq => by have h1 := hge37 q hq; omega
   have lt40 := VotT.lt ho36
   have dis41 : ∀ q, F35 q → ¬ inA A2 q := fun q h1 h2 => by have h3 := hge37 q h1; have h4 := lt2 q h2; omega
   have dis42 : ∀ q, F35 q → ¬ F18 q := fun q h1 h2 => by have h3 := hge37 q h1; have h4 := lt23 q h2; omega
   have hg34lt : g34 < w32.heap.size := VotT.lt ho36 _ (VotT.at_ ho36)
   have hg34ge := hge37 _ (VotT.at_ ho36)
   refine OI_static 3 [(5, pt l17), (6, nt 0), (38, pt l17), (39, pt g34), (40, .pointer pv27)] (by kernel_rfl) ?_
   refine OI_call { callee := (Callee.value (Operand.func 43)), args := #[], argTypes := #[] } 43 #[] (some 41) (by kernel_rfl) (by kernel_rfl) (by kernel_rfl) (rnew11_weak _) ?_
   rintro _ w43 ⟨pv45, rfl, hk44⟩
   refine ⟨_, rfl, ?_⟩
   have hsz46 := Keep.size hk44
   replace hA := ArgT.keep0 hA hk44
   replace hA2 := SlT.keep0 hA2 hk44
   replace hK0 := Keep.tr hK0 (Keep.ofNone hk44)
   replace ho19 := Led.keep ho19 hk44 (fun _ _ f => f)
   replace ho36 := VotT.keep ho36 hk44 (fun _ _ f => f)
   refine OI_static 5 [(5, pt l17), (6, nt 0), (42, .agg #[pt l17, pt g34, .pointer pv27, .pointer pv45, nt 0])] (by kernel_rfl) ?_
   refine OI_box 35 (.tmp 42) (.agg #[pt l17, pt g34, .pointer pv27, .pointer pv45, nt 0]) [pt l17, pt g34, .pointer pv27, .pointer pv45, nt 0] (some 43) (by kernel_rfl) (by kernel_rfl) (by kernel_rfl) ?_
   intro b47 w47 e47 hb47 k47 z47
   have hsz48 := Keep.size k47
   replace hA := ArgT.keep0 hA k47
   replace hA2 := SlT.keep0 hA2 k47
   replace hK0 := Keep.tr hK0 (Keep.ofNone k47)
   replace ho19 := Led.keep ho19 k47 (fun _ _ f => f)
   replace ho36 := VotT.keep ho36 k47 (fun _ _ f => f)
   have hb47lt := hb47.lt
   refine OI_static 7 [(5, pt l17), (6, nt 0), (9, pt b47)] (by kernel_rfl) ?_
   refine OI_end rfl ?_
   refine X_then ?_
   refine V_seq ?_
   refine V_seq ?_
   refine V_region ?_
   refine OI_static 10 [(9, pt b47), (50, .bool false), (53, .pointer (some ⟨b47, 1, none⟩))] (by kernel_rfl) ?_
   refine OI_cell 31 (.tmp 53) 1 (pt g34) (some 54) (by kernel_rfl) (by kernel_rfl) hb47 (m := 1) (by kernel_rfl) rfl ?_
   refine OI_static 13 [(9, pt b47), (56, .bool false)] (by kernel_rfl) ?_
   refine OI_end rfl ?_
   refine X_then ?_
   refine V_false rfl ?_
   refine V_skip ?_
   refine X_then ?_
   refine V_seq ?_
   refine V_region ?_
   refine OI_static 2 [(2, pt b47)] (by kernel_rfl) ?_
   refine OI_end rfl ?_
   refine X_then ?_
   refine V_ret ?_
   exact X_return _ rfl ⟨b47, g34, l17, F35, F18, pv27, pv45, rfl, hb47, ho36, by rw [hms] at ho19; exact ho19, hK0, by omega, fun q hq => ⟨by have h1 := own39 q hq; omega, by have h1 := lt40 q hq; omega⟩, fun q hq => ⟨by have h1 := own22 q hq; omega, by have h1 := lt23 q hq; omega⟩, dis42⟩
 ·
  refine OI_eq [(0, .slice A fs.length cap), (3, .slice A2 ms.length cap2), (4, nt ((i : Nat) : Int)), (14, .bool false)] (by first | simp [hg5] | rfl) ?_
  refine OI_static 8 [(0, .slice A fs.length cap), (3, .slice A2 ms.length cap2), (4, nt ((i : Nat) : Int)), (15, undef), (16, undef), (17, .bool false)] (by kernel_rfl) ?_
  refine OI_end rfl ?_
  refine X_then ?_
  refine V_false rfl ?_
  refine V_exit ?_
  refine X_exit_then ?_
  refine X_exit_then ?_
  refine X_exit_here ?_
  refine X_then ?_
  refine V_seq ?_
  refine V_region ?_
  refine OI_static 1 [(3, .slice A2 ms.length cap2), (29, .slice A2 ms.length cap2)] (by kernel_rfl) ?_
  have hie : i = min fs.length 10 := by omega
  have htk : fs.take i = fs.take 10 := by rw [hie]; rcases Nat.le_total fs.length 10 with h9 | h9; (rw [Nat.min_eq_left h9, List.take_length, List.take_of_length_le h9]); rw [Nat.min_eq_right h9]
  rw [htk] at hms
  have hok9 := msk24_ok (fs := fs.take 10) (by rw [List.length_take]; omega)
  rw [← hms] at hok9
  refine OI_call { callee := (Callee.value (Operand.func 29)), args := #[(Operand.tmp 29)], argTypes := #[28] } 29 #[.slice A2 ms.length cap2] (some 30) (by kernel_rfl) (by kernel_rfl) (by kernel_rfl) (new_ok A2 cap2 ms _ (SlT.arg hA2) (by omega) hok9) ?_
  rintro _ w49 ⟨l51, F52, rfl, ho53, hk50, hge54⟩
  refine ⟨_, rfl, ?_⟩
  have hsz55 := Keep.size hk50
  replace hA := ArgT.keep0 hA hk50
  replace hA2 := SlT.keep0 hA2 hk50
  replace hK0 := Keep.tr hK0 (Keep.ofNone hk50)
  have own56 : ∀ q, F52 q → w1.heap.size ≤ q := fun q hq => by have h1 := hge54 q hq; omega
  have lt57 := Led.lt ho53
  have dis58 : ∀ q, F52 q → ¬ inA A2 q := fun q h1 h2 => by have h3 := hge54 q h1; have h4 := lt2 q h2; omega
  have hl51lt : l51 < w49.heap.size := Led.lt ho53 _ (Led.at_ ho53)
  have hl51ge := hge54 _ (Led.at_ ho53)
  refine OI_static 7 [(3, .slice A2 ms.length cap2), (5, pt l51), (6, nt 0)] (by kernel_rfl) ?_
  refine OI_end rfl ?_
  refine X_then ?_
  refine V_seq ?_
  refine V_region ?_
  refine OI_static 1 [(5, pt l51), (6, nt 0), (34, .slice A2 ms.length cap2)] (by kernel_rfl) ?_
  refine OI_call { callee := (Callee.value (Operand.func 41)), args := #[(Operand.tmp 34)], argTypes := #[28] } 41 #[.slice A2 ms.length cap2] (some 35) (by kernel_rfl) (by kernel_rfl) (by kernel_rfl) (rnew6_weak A2 cap2 ms _ (SlT.arg hA2) (by omega)) ?_
  rintro _ w59 ⟨pv61, n62, rfl, hk60⟩
  refine ⟨_, rfl, ?_⟩
  have hsz63 := Keep.size hk60
  replace hA := ArgT.keep0 hA hk60
  replace hA2 := SlT.keep0 hA2 hk60
  replace hK0 := Keep.tr hK0 (Keep.ofNone hk60)
  replace ho53 := Led.keep ho53 hk60 (fun _ _ f => f)
  refine OI_static 7 [(5, pt l51), (6, nt 0), (7, .pointer pv61)] (by kernel_rfl) ?_
  refine OI_end rfl ?_
  refine X_then ?_
  refine V_seq ?_
  refine V_region ?_
  refine OI_static 1 [(5, pt l51), (6, nt 0), (7, .pointer pv61), (38, pt l51)] (by kernel_rfl) ?_
  refine OI_call { callee := (Callee.value (Operand.func 42)), args := #[], argTypes := #[] } 42 #[] (some 39) (by kernel_rfl) (by kernel_rfl) (by kernel_rfl) (new_votT _) ?_
  rintro _ w66 ⟨g68, F69, rfl, ho70, hk67, hge71⟩
  refine ⟨_, rfl, ?_⟩
  have hsz72 := Keep.size hk67
  replace hA := ArgT.keep0 hA hk67
  replace hA2 := SlT.keep0 hA2 hk67
  replace hK0 := Keep.tr hK0 (Keep.ofNone hk67)
  replace ho53 := Led.keep ho53 hk67 (fun _ _ f => f)
  have own73 : ∀ q, F69 q → w59.heap.size ≤ q := fun q hq => by have h1 := hge71 q hq; omega
  have lt74 := VotT.lt ho70
  have dis75 : ∀ q, F69 q → ¬ inA A2 q := fun q h1 h2 => by have h3 := hge71 q h1; have h4 := lt2 q h2; omega
  have dis76 : ∀ q, F69 q → ¬ F52 q := fun q h1 h2 => by have h3 := hge71 q h1; have h4 := lt57 q h2; omega
  have hg68lt : g68 < w66.heap.size := VotT.lt ho70 _ (VotT.at_ ho70)
  have hg68ge := hge71 _ (VotT.at_ ho70)
  refine OI_static 3 [(5, pt l51), (6, nt 0), (38, pt l51), (39, pt g68), (40, .pointer pv61)] (by kernel_rfl) ?_
  refine OI_call { callee := (Callee.value (Operand.func 43)), args := #[], argTypes := #[] } 43 #[] (some 41) (by kernel_rfl) (by kernel_rfl) (by kernel_rfl) (rnew11_weak _) ?_
  rintro _ w77 ⟨pv79, rfl, hk78⟩
  refine ⟨_, rfl, ?_⟩
  have hsz80 := Keep.size hk78
  replace hA := ArgT.keep0 hA hk78
  replace hA2 := SlT.keep0 hA2 hk78
  replace hK0 := Keep.tr hK0 (Keep.ofNone hk78)
  replace ho53 := Led.keep ho53 hk78 (fun _ _ f => f)
  replace ho70 := VotT.keep ho70 hk78 (fun _ _ f => f)
  refine OI_static 5 [(5, pt l51), (6, nt 0), (42, .agg #[pt l51, pt g68, .pointer pv61, .pointer pv79, nt 0])] (by kernel_rfl) ?_
  refine OI_box 35 (.tmp 42) (.agg #[pt l51, pt g68, .pointer pv61, .pointer pv79, nt 0]) [pt l51, pt g68, .pointer pv61, .pointer pv79, nt 0] (some 43) (by kernel_rfl) (by kernel_rfl) (by kernel_rfl) ?_
  intro b81 w81 e81 hb81 k81 z81
  have hsz82 := Keep.size k81
  replace hA := ArgT.keep0 hA k81
  replace hA2 := SlT.keep0 hA2 k81
  replace hK0 := Keep.tr hK0 (Keep.ofNone k81)
  replace ho53 := Led.keep ho53 k81 (fun _ _ f => f)
  replace ho70 := VotT.keep ho70 k81 (fun _ _ f => f)
  have hb81lt := hb81.lt
  refine OI_static 7 [(5, pt l51), (6, nt 0), (9, pt b81)] (by kernel_rfl) ?_
  refine OI_end rfl ?_
  refine X_then ?_
  refine V_seq ?_
  refine V_seq ?_
  refine V_region ?_
  refine OI_static 10 [(9, pt b81), (50, .bool false), (53, .pointer (some ⟨b81, 1, none⟩))] (by kernel_rfl) ?_
  refine OI_cell 31 (.tmp 53) 1 (pt g68) (some 54) (by kernel_rfl) (by kernel_rfl) hb81 (m := 1) (by kernel_rfl) rfl ?_
  refine OI_static 13 [(9, pt b81), (56, .bool false)] (by kernel_rfl) ?_
  refine OI_end rfl ?_
  refine X_then ?_
  refine V_false rfl ?_
  refine V_skip ?_
  refine X_then ?_
  refine V_seq ?_
  refine V_region ?_
  refine OI_static 2 [(2, pt b81)] (by kernel_rfl) ?_
  refine OI_end rfl ?_
  refine X_then ?_
  refine V_ret ?_
  exact X_return _ rfl ⟨b81, g68, l51, F69, F52, pv61, pv79, rfl, hb81, ho70, by rw [hms] at ho53; exact ho53, hK0, by omega, fun q hq => ⟨by have h1 := own73 q hq; omega, by have h1 := lt74 q hq; omega⟩, fun q hq => ⟨by have h1 := own56 q hq; omega, by have h1 := lt57 q hq; omega⟩, dis76⟩
end Go.Al


namespace Go.Al
open Go Go.RowKit Go.Proofs
/-! ### Locks, by accounts and ids -/
theorem mem_getC {cs : List Ci} : Srt cs → ∀ c ∈ cs, getC c.a c.b cs = some c.v := by
  induction cs with
  | nil => intro _ c hc; cases hc
  | cons x l ih =>
    intro hs c hc
    have hs2 := List.pairwise_cons.1 hs
    simp only [getC]
    rcases List.mem_cons.1 hc with rfl | hc
    · rw [if_pos ⟨rfl, rfl⟩]
    · rw [if_neg (fun h => by have := hs2.1 c hc; unfold ltC at this; omega)]
      exact ih hs2.2 c hc
theorem getC_mem {a b v : Int} : ∀ {cs : List Ci}, getC a b cs = some v → ⟨a, b, v⟩ ∈ cs
  | [], h => by cases h
  | x :: l, h => by
    simp only [getC] at h
    split at h
    · rename_i he
      cases h
      obtain ⟨x1, x2, x3⟩ := x
      simp only at he
      rw [he.1, he.2]; exact List.mem_cons_self ..
    · exact List.mem_cons_of_mem _ (getC_mem h)
theorem getC_set (a b x : Int) : ∀ (cs : List Ci), Srt cs → ∀ a' b', getC a' b' (setC a b x cs) = if a' = a ∧ b' = b then some x else getC a' b' cs
  | [], _, a', b' => by
    simp only [setC, getC]
    by_cases h : a' = a ∧ b' = b
    · rw [if_pos ⟨h.1.symm, h.2.symm⟩, if_pos h]
    · rw [if_neg (fun e => h ⟨e.1.symm, e.2.symm⟩), if_neg h]
  | c :: l, hs, a', b' => by
    have hs2 := List.pairwise_cons.1 hs
    have ih := getC_set a b x l hs2.2 a' b'
    simp only [setC]
    split
    · rename_i he
      simp only [getC]
      by_cases h : a' = a ∧ b' = b
      · rw [if_pos ⟨h.1.symm, h.2.symm⟩, if_pos h]
      · rw [if_neg (fun e => h ⟨e.1.symm, e.2.symm⟩), if_neg h, if_neg (fun e => h ⟨by omega, by omega⟩)]
    · rename_i he
      split
      · simp only [getC]
        rw [ih]
        by_cases h : a' = a ∧ b' = b
        · rw [if_pos h, if_pos h, if_neg (fun e => he ⟨by omega, by omega⟩)]
        · rw [if_neg h, if_neg h]
      · simp only [getC]
        by_cases h : a' = a ∧ b' = b
        · rw [if_pos ⟨h.1.symm, h.2.symm⟩, if_pos h]
        · rw [if_neg (fun e => h ⟨e.1.symm, e.2.symm⟩), if_neg h]
theorem getC_gt {a b : Int} {cs : List Ci} (h : ∀ y ∈ cs, ltC a b y.a y.b) : getC a b cs = none := (none_later h).1
theorem getC_del (a b : Int) : ∀ (cs : List Ci), Srt cs → ∀ a' b', getC a' b' (delC a b cs) = if a' = a ∧ b' = b then none else getC a' b' cs
  | [], _, a', b' => by simp only [delC, getC]; split <;> rfl
  | c :: l, hs, a', b' => by
    have hs2 := List.pairwise_cons.1 hs
    have ih := getC_del a b l hs2.2 a' b'
    simp only [delC]
    split
    · rename_i he
      by_cases h : a' = a ∧ b' = b
      · rw [if_pos h]
        exact getC_gt (fun y hy => by have := hs2.1 y hy; rw [h.1, h.2, ← he.1, ← he.2]; exact this)
      · rw [if_neg h]; simp only [getC]
        rw [if_neg (fun e => h ⟨by omega, by omega⟩)]
    · rename_i he
      simp only [getC]
      rw [ih]
      by_cases h : a' = a ∧ b' = b
      · rw [if_pos h, if_pos h, if_neg (fun e => he ⟨by omega, by omega⟩)]
      · rw [if_neg h, if_neg h]
def LkOk (cs : List Ci) : Prop := Srt cs ∧ ∀ c ∈ cs, 0 < c.v ∧ c.v ≤ 1073741824
def lkv (cs : List Ci) (a t : Int) : Int := (getC a t cs).getD 0
theorem lockM_le : ∀ (l : List (Int × Int)) (m b : Int), lockM l m ≤ b ↔ m ≤ b ∧ ∀ q ∈ l, q.2 ≤ b
  | [], m, b => by simp [lockM]
  | q :: l, m, b => by
    simp only [lockM]
    rw [lockM_le l _ b]
    simp only [List.mem_cons, forall_eq_or_imp]
    split <;> constructor <;> rintro ⟨h1, h2⟩
    · exact ⟨by omega, h1, h2⟩
    · exact ⟨h2.1, h2.2⟩
    · exact ⟨h1, by omega, h2⟩
    · exact ⟨h1, h2.2⟩
theorem lockedL_le (cs : List Ci) (a b : Int) : lockedL cs a ≤ b ↔ 0 ≤ b ∧ ∀ c ∈ cs, c.a = a → c.v ≤ b := by
  unfold lockedL rowL
  rw [lockM_le]
  constructor
  · rintro ⟨h1, h2⟩
    exact ⟨h1, fun c hc ha => h2 (c.b, c.v) (List.mem_map.2 ⟨c, List.mem_filter.2 ⟨hc, by simp [ha]⟩, rfl⟩)⟩
  · rintro ⟨h1, h2⟩
    refine ⟨h1, fun q hq => ?_⟩
    obtain ⟨c, hc, rfl⟩ := List.mem_map.1 hq
    obtain ⟨h3, h4⟩ := List.mem_filter.1 hc
    exact h2 c h3 (by simpa using h4)
theorem lockedL_lkv {cs : List Ci} (h : LkOk cs) (a b : Int) : lockedL cs a ≤ b ↔ 0 ≤ b ∧ ∀ t, lkv cs a t ≤ b := by
  rw [lockedL_le]
  constructor
  · rintro ⟨h1, h2⟩
    refine ⟨h1, fun t => ?_⟩
    unfold lkv
    cases hg : getC a t cs with
    | none => exact h1
    | some v => exact h2 _ (getC_mem hg) rfl
  · rintro ⟨h1, h2⟩
    refine ⟨h1, fun c hc ha => ?_⟩
    have := h2 c.b
    unfold lkv at this
    rw [← ha, mem_getC h.1 c hc] at this
    exact this
theorem lkv_bnd {cs : List Ci} (h : LkOk cs) (a t : Int) : 0 ≤ lkv cs a t ∧ lkv cs a t ≤ 1073741824 := by
  unfold lkv
  cases hg : getC a t cs with
  | none => exact ⟨Int.le_refl _, by decide⟩
  | some v => have := h.2 _ (getC_mem hg); exact ⟨by show 0 ≤ v; simp only at this; omega, by show v ≤ _; simp only at this; omega⟩
theorem LkOk.nil : LkOk [] := ⟨Srt.nil, fun c hc => by cases hc⟩
theorem setC_mem3 {a b v : Int} {y : Ci} : ∀ {cs : List Ci}, y ∈ setC a b v cs → y = ⟨a, b, v⟩ ∨ y ∈ cs
  | [], h => by simp only [setC, List.mem_singleton] at h; exact .inl h
  | x :: l, h => by
    simp only [setC] at h
    split at h
    · rcases List.mem_cons.1 h with h | h
      · exact .inl h
      · exact .inr (List.mem_cons_of_mem _ h)
    · split at h
      · rcases List.mem_cons.1 h with rfl | h
        · exact .inr (List.mem_cons_self ..)
        · exact (setC_mem3 h).imp id (List.mem_cons_of_mem _)
      · rcases List.mem_cons.1 h with h | h
        · exact .inl h
        · exact .inr h
theorem delC_mem3 {a b : Int} {y : Ci} : ∀ {cs : List Ci}, y ∈ delC a b cs → y ∈ cs
  | [], h => by simp [delC] at h
  | x :: l, h => by
    simp only [delC] at h
    split at h
    · exact List.mem_cons_of_mem _ h
    · rcases List.mem_cons.1 h with rfl | h
      · exact List.mem_cons_self ..
      · exact List.mem_cons_of_mem _ (delC_mem3 h)
theorem LkOk.lock {cs : List Ci} (h : LkOk cs) (a t n : Int) : LkOk (lockC cs a t n) := by
  unfold lockC
  split
  · split
    · exact ⟨(h.1.del a t).1, fun c hc => h.2 c (delC_mem3 hc)⟩
    · refine ⟨(Srt.set h.1).1, fun c hc => ?_⟩
      rcases setC_mem3 hc with rfl | hc
      · simp only; omega
      · exact h.2 c hc
  · exact h
theorem lkv_lock {cs : List Ci} (h : LkOk cs) {a : Int} (ha : isA a = true) (t n a' t' : Int) : lkv (lockC cs a t n) a' t' = if a' = a ∧ t' = t then (if n ≤ 0 ∨ n > 1073741824 then 0 else n) else lkv cs a' t' := by
  unfold lkv lockC
  rw [if_pos ha]
  split
  · rw [getC_del a t cs h.1]; split <;> rfl
  · rw [getC_set a t n cs h.1]; split <;> rfl
theorem hasAt_iff {cs : List Ci} (h : LkOk cs) {a t n : Int} : hasAt t n (rowL a cs) = true ↔ ∃ v, getC a t cs = some v ∧ n ≤ v := by
  unfold hasAt rowL
  rw [List.any_eq_true]
  constructor
  · rintro ⟨x, hx, h2⟩
    obtain ⟨c, hc, rfl⟩ := List.mem_map.1 hx
    obtain ⟨h3, h4⟩ := List.mem_filter.1 hc
    simp only [Bool.and_eq_true, decide_eq_true_eq] at h2
    have h5 : c.a = a := by simpa using h4
    exact ⟨c.v, by rw [← h5, ← h2.1]; exact mem_getC h.1 c h3, h2.2⟩
  · rintro ⟨v, hv, hn⟩
    exact ⟨(t, v), List.mem_map.2 ⟨⟨a, t, v⟩, List.mem_filter.2 ⟨getC_mem hv, by simp⟩, rfl⟩, by simp [hn]⟩
theorem LkOk.raise {cs : List Ci} (h : LkOk cs) (a t n : Int) : LkOk (raiseC cs a t n) := by
  unfold raiseC
  split
  · exact h
  · exact h.lock _ _ _
theorem lkv_raise {cs : List Ci} (h : LkOk cs) {a : Int} (ha : isA a = true) {n : Int} (hn : 0 ≤ n) (hn2 : n ≤ 1073741824) (t a' t' : Int) : lkv (raiseC cs a t n) a' t' = if a' = a ∧ t' = t then imax (lkv cs a t) n else lkv cs a' t' := by
  unfold raiseC
  by_cases hh : hasAt t n (rowL a cs) = true
  · rw [if_pos hh]
    obtain ⟨v, hv, h2⟩ := (hasAt_iff h).1 hh
    split
    · rename_i he
      rw [he.1, he.2]; unfold lkv imax; rw [hv]
      show v = if n > v then n else v
      rw [if_neg (by omega)]
    · rfl
  · rw [if_neg hh, lkv_lock h ha]
    split
    · have hlt : lkv cs a t < n ∨ (lkv cs a t = 0 ∧ n = 0) := by
        unfold lkv
        cases hg : getC a t cs with
        | none => show (0 : Int) < n ∨ (0 : Int) = 0 ∧ n = 0; omega
        | some v =>
          left
          show v < n
          rcases Int.lt_or_le v n with h9 | h9
          · exact h9
          · exact absurd ((hasAt_iff h).2 ⟨v, hg, h9⟩) hh
      have hb := lkv_bnd h a t
      unfold imax
      split
      · split <;> omega
      · rw [if_pos (by omega)]
    · rfl
theorem eq_of_le {a b : Int} (h : ∀ c, a ≤ c ↔ b ≤ c) : a = b := by have h1 := (h a).1 (Int.le_refl _); have h2 := (h b).2 (Int.le_refl _); omega
theorem setC_len (a b v : Int) : ∀ cs : List Ci, (setC a b v cs).length ≤ cs.length + 1
  | [] => by simp [setC]
  | x :: l => by
    have := setC_len a b v l
    simp only [setC]
    split
    · simp
    · split
      · simp only [List.length_cons]; omega
      · simp
theorem delC_len (a b : Int) : ∀ cs : List Ci, (delC a b cs).length ≤ cs.length
  | [] => by simp [delC]
  | x :: l => by
    have := delC_len a b l
    simp only [delC]
    split <;> simp <;> omega
theorem lockC_len (cs : List Ci) (a i n : Int) : (lockC cs a i n).length ≤ cs.length + 1 := by
  unfold lockC
  split
  · split
    · have := delC_len a i cs; omega
    · exact setC_len _ _ _ _
  · omega
theorem raiseC_len (cs : List Ci) (a i n : Int) : (raiseC cs a i n).length ≤ cs.length + 1 := by
  unfold raiseC
  split
  · omega
  · exact lockC_len _ _ _ _
/-! ### What succeeds -/
theorem vote_go {xs : List Acc} {s : VS} {who ref : Int} {x : Vt} {q : PollS} (h1 : 0 ≤ who ∧ who ≤ 9) (h2 : okV x) (h3 : pollAt s ref = some q) (h4 : q.state = 0) (h5 : (s.rc who q.track).d = none) (h6 : capI x ≤ (acct xs who).free) (h7 : (GV.getC who ref s.cs).isSome = true ∨ (vrow s who q.track).length < 6) :
    voteE xs s who ref x = 0 ∧ voteS xs s who ref x = { s.setP ref.toNat { q with t := voteT s who ref x q } with cs := GV.setC who ref x s.cs } ∧ ∀ cs, voteC xs cs s who ref x = raiseC cs who q.track (capI x) := by
  have hE : voteE xs s who ref x = 0 := by
    unfold voteE
    rw [if_neg (by rintro (h9 | h9); exact h9 h1; exact h9 h2), h3]; dsimp only
    rw [if_neg (fun h9 => h9 h4), if_neg (by rw [h5]; decide), if_neg (by omega), if_neg ?_]
    rintro ⟨h8, h9⟩
    rcases h7 with h7 | h7
    · rw [h7] at h8; cases h8
    · omega
  refine ⟨hE, ?_, fun cs => ?_⟩
  · unfold voteS; rw [if_pos hE, h3]
  · unfold voteC; rw [if_pos hE, h3]
theorem w64_id {x : Int} (h1 : -9223372036854775808 ≤ x) (h2 : x ≤ 9223372036854775807) : w64 x = x := wrap64_id (by omega) (by omega)
theorem capI_ok {x : Vt} (h : okV x) : capI x = x.a + x.n + x.s ∧ 0 ≤ capI x ∧ capI x ≤ 1073741824 := by
  have hb := h.1
  have e : capI x = x.a + x.n + x.s := by unfold capI; rw [w64_id (x := x.a + x.n) (by omega) (by omega), w64_id (by omega) (by omega)]
  rw [e]; omega
end Go.Al


namespace Go.Al
open Go Go.RowKit Go.Proofs
/-! ### What is lent counts -/
def knX : List Acc := newX [0, 10, 10] 10
def knV : Vt := ⟨1, true, 2, 10, 0, 0⟩
def knS1 : VS := openS VS.zero 0 1
def knS2 : VS := delS knX knS1 2 1 1 1 10
def knC2 : List Ci := delC2 knX [] knS1 2 1 1 1 10
def knS3 : VS := voteS knX knS2 1 0 knV
def knC3 : List Ci := voteC knX knC2 knS2 1 0 knV
theorem kn1 : openE VS.zero 0 1 = 0 := by kernel_rfl
theorem kn2 : delE knX knS1 2 1 1 1 10 = 0 := by kernel_rfl
theorem kn3 : voteE knX knS2 1 0 knV = 0 := by kernel_rfl
theorem kn4 : tallyT knS3 0 = ⟨30, 0, 20⟩ := by kernel_rfl
theorem kn0 : newX (msk24 ([0, 10, 10].take 10)) 10 = knX := by kernel_rfl
theorem kn5 : knC2.length < 100000 := by rw [show knC2.length = 1 by kernel_rfl]; decide

set_option maxRecDepth 10000 in
theorem known_spec (w : World) : Calls Tryz.prog 22 #[] w fun e w' => e = .returned (.bool true) ∧ Keep none_ w w' := by
 have hK0 : Keep none_ w w := Keep.refl _ _
 have hzhK0 := Keep.size hK0
 refine enterV Tryz.func22 rfl [] 48 rfl rfl rfl ?_
 refine V_pick [] rfl ?_
 refine V_seq ?_
 refine V_region ?_
 refine OI_static 1 [] (by kernel_rfl) ?_
 refine OI_end rfl ?_
 refine X_then ?_
 refine V_seq ?_
 refine V_region ?_
 refine OI_slit (E := 3) (zv := nt 0) (sz := 1) (by_ := 8) 28 3 #[(0, (Operand.const (Value.int IntKind.i64 0))), (1, (Operand.const (Value.int IntKind.i64 10))), (2, (Operand.const (Value.int IntKind.i64 10)))] [nt 0, nt 10, nt 10] [nt 0, nt 10, nt 10] (some 5) (by kernel_rfl) (by kernel_rfl) (by kernel_rfl) (by omega) rfl (by omega) (by intro v hv; simp only [List.mem_cons, List.not_mem_nil, or_false] at hv; rcases hv with rfl | rfl | rfl <;> rfl) (by kernel_rfl) rfl ?_
 intro b1 w1 e1 hb1 k1 z1
 have hsz2 := Keep.size k1
 replace hK0 := Keep.tr hK0 (Keep.ofNone k1)
 have hb1lt := hb1.lt
 refine OI_call { callee := (Callee.value (Operand.func 15)), args := #[(Operand.tmp 5)], argTypes := #[28] } 15 #[.slice (some ⟨b1, 0, none⟩) 3 3] (some 6) (by kernel_rfl) (by kernel_rfl) (by kernel_rfl) (begin_weak (some ⟨b1, 0, none⟩) 3 [0, 10, 10] _ (slt_blk (xs := [0, 10, 10]) (f := intc) hb1 (fun _ => rfl) rfl).arg (by simp)) ?_
 rintro _ w5 ⟨b7, v8, l9, F10, G11, xv12, yv13, rfl, hb14, ho15, hl16, hk6, hge17, hF18, hG19, hd20⟩
 refine ⟨_, rfl, ?_⟩
 have hsz21 := Keep.size hk6
 replace hb1 := hb1.keep hk6 (fun f => f)
 replace hK0 := Keep.tr hK0 (Keep.ofNone hk6)
 have hb7lt := hb14.lt
 have own22 : ∀ q, F10 q → w1.heap.size ≤ q ∧ q ≠ b1 ∧ q ≠ b7 := fun q hq => by have h1 := hF18 q hq; omega
 have lt23 := VotT.lt ho15
 have hb7lt := hb14.lt
 have own24 : ∀ q, G11 q → w1.heap.size ≤ q ∧ q ≠ b1 ∧ q ≠ b7 := fun q hq => by have h1 := hG19 q hq; omega
 have lt25 := Led.lt hl16
 replace hl16 : Led G11 w5 l9 knX ([] : List Ci) := by rw [kn0] at hl16; exact hl16
 refine OI_static 3 [(1, pt b7)] (by kernel_rfl) ?_
 refine OI_end rfl ?_
 refine X_then ?_
 refine V_seq ?_
 refine V_seq ?_
 refine V_region ?_
 refine OI_static 2 [(1, pt b7), (8, .bool false)] (by kernel_rfl) ?_
 refine OI_end rfl ?_
 refine X_then ?_
 refine V_false rfl ?_
 refine V_skip ?_
 refine X_then ?_
 refine V_seq ?_
 refine V_region ?_
 refine OI_static 3 [(1, pt b7), (11, .pointer (some ⟨b7, 1, none⟩))] (by kernel_rfl) ?_
 refine OI_cell 31 (.tmp 11) 1 (pt v8) (some 12) (by kernel_rfl) (by kernel_rfl) hb14 (m := 1) (by kernel_rfl) rfl ?_
 refine OI_call { callee := (Callee.value (Operand.func 16)), args := #[(Operand.tmp 12), (Operand.const (Value.int IntKind.i64 0)), (Operand.const (Value.int IntKind.i64 1))], argTypes := #[31, 3, 3] } 16 #[pt v8, nt 0, nt 1] (some 13) (by kernel_rfl) (by kernel_rfl) (by kernel_rfl) (open_specT F10 v8 VS.zero 0 1 _ ho15) ?_
 rintro _ w28 ⟨rfl, ⟨F30, ho31, hfr32⟩, hk29⟩
 refine ⟨_, rfl, ?_⟩
 have hsz33 := Keep.size hk29
 replace hb14 := hb14.keep hk29 (fun hs => by have h1 := own22 _ hs; have h2 := lt23 _ hs; omega)
 replace hK0 := Keep.fresh hK0 hk29 (by intro i hi hs; first | exact hs | (exfalso; have h1 := own22 i hs; have h2 := lt23 i hs; omega) | (have h1 := own22 i hs; have h2 := lt23 i hs; show _ ∨ _; omega))
 replace hl16 := Led.keep hl16 hk29 (fun q hq hs => hd20 q hs hq)
 have own35 : ∀ q, F30 q → w1.heap.size ≤ q ∧ q ≠ b7 := fun q hq => by rcases hfr32 q hq with h | h; (have h1 := own22 q h; have h2 := lt23 q h; omega); omega
 have lt34 := VotT.lt ho31
 have dis36 : ∀ q, F30 q → ¬ G11 q := fun q h1 h2 => by rcases hfr32 q h1 with h | h; exact hd20 q h h2; (have h4 := lt25 q h2; omega)
 replace ho31 : VotT F30 w28 v8 knS1 := by rw [show openS VS.zero 0 1 = knS1 from rfl] at ho31; exact ho31
 refine OI_pick [(1, pt b7), (13, nt (openE VS.zero 0 1))] (by kernel_rfl) ?_
 refine OI_eq [(1, pt b7), (13, nt 0)] (by rw [kn1]) ?_
 refine OI_static 6 [(1, pt b7), (2, nt 0)] (by kernel_rfl) ?_
 refine OI_end rfl ?_
 refine X_then ?_
 refine V_seq ?_
 refine V_draws (acts [8]) none_ [[0, 1, 2, 3, 4, 5, 6, 7, 8, 9]] (by kernel_rfl) (by repeat first | exact sure_body (by rintro _ _ ⟨h, _⟩; exact ⟨_, h⟩) | refine sure_then ?_ | refine sure_block ?_ | refine sure_join ?_) (by kernel_rfl) ?_
 intro w38 hk37 he39 L hL40
 have hsz41 := Keep.size hk37
 replace hb14 := hb14.keep hk37 (fun f => f)
 replace hK0 := Keep.tr hK0 (Keep.ofNone hk37)
 replace hl16 := Led.keep hl16 hk37 (fun _ _ f => f)
 replace ho31 := VotT.keep ho31 hk37 (fun _ _ f => f)
 have qhb14 := hb14
 have K42 : Keep none_ w38 w38 := Keep.refl _ _
 obtain rfl := List.mem_singleton.1 hL40
 refine GI_static [3, 4, 5, 6, 7, 8, 9] [(1, pt b7), (2, nt 0), (16, .pointer (some ⟨b7, 1, none⟩))] (by kernel_rfl) ?_
 refine GI_cell 31 (.tmp 16) 1 (pt v8) (some 17) (by kernel_rfl) (by kernel_rfl) (by kernel_rfl) qhb14 (fun f => f) (m := 1) (by kernel_rfl) rfl ?_
 refine GI_static [7, 8, 9] [(1, pt b7), (2, nt 0), (17, pt v8), (20, pt b7)] (by kernel_rfl) ?_
 refine GI_cell 30 (.tmp 20) 0 (pt l9) (some 21) (by kernel_rfl) (by kernel_rfl) (by kernel_rfl) qhb14 (fun f => f) (m := 1) (by kernel_rfl) rfl ?_
 refine GI_call0 { callee := (Callee.value (Operand.func 17)), args := #[(Operand.tmp 17), (Operand.tmp 21), (Operand.const (Value.int IntKind.i64 2)), (Operand.const (Value.int IntKind.i64 1)), (Operand.const (Value.int IntKind.i64 1)), (Operand.const (Value.int IntKind.i64 1)), (Operand.const (Value.int IntKind.i64 10))], argTypes := #[31, 30, 3, 3, 3, 3, 3] } 17 #[pt v8, pt l9, nt 2, nt 1, nt 1, nt 1, nt 10] (some 22) (by kernel_rfl) (by kernel_rfl) (by kernel_rfl) (by kernel_rfl) (by kernel_rfl) (delegate_spec F30 G11 v8 l9 knS1 knX ([] : List Ci) 2 1 1 1 10 _ ho31 hl16 dis36 (by first | decide | exact kn5)) ?_
 rintro _ w45 ⟨rfl, ⟨F47, F50, ho48, ho51, hfr49, hfr52, hdis53⟩, hk46⟩
 refine ⟨_, rfl, ?_⟩
 have hsz54 := Keep.size hk46
 replace hb14 := hb14.keep hk46 (fun hs => by rcases hs with hs | hs; (have u0 := own35 _ hs; have u1 := lt34 _ hs; omega); (have u0 := own24 _ hs; have u1 := lt25 _ hs; omega))
 replace hK0 := Keep.fresh hK0 hk46 (by intro i hi hs; first | exact hs | (rcases hs with hs | hs; (have u0 := own35 i hs; have u1 := lt34 i hs; omega); (have u0 := own24 i hs; have u1 := lt25 i hs; omega)))
 have own56 : ∀ q, F47 q → w1.heap.size ≤ q ∧ q ≠ b7 := fun q hq => by rcases hfr49 q hq with h | h; (have h1 := own35 q h; have h2 := lt34 q h; omega); omega
 have lt55 := VotT.lt ho48
 have own58 : ∀ q, F50 q → w1.heap.size ≤ q ∧ q ≠ b7 := fun q hq => by rcases hfr52 q hq with h | h; (have h1 := own24 q h; have h2 := lt25 q h; omega); omega
 have lt57 := Led.lt ho51
 replace ho48 : VotT F47 w45 v8 knS2 := by rw [show delS knX knS1 2 1 1 1 10 = knS2 from rfl] at ho48; exact ho48
 replace ho51 : Led F50 w45 l9 knX knC2 := by rw [show delC2 knX ([] : List Ci) knS1 2 1 1 1 10 = knC2 from rfl] at ho51; exact ho51
 refine GI_pick [(1, pt b7), (2, nt 0), (22, nt (delE knX knS1 2 1 1 1 10))] (by kernel_rfl) ?_
 refine GI_eq [(1, pt b7), (2, nt 0), (22, nt 0)] (by rw [kn2]) ?_
 refine GI_static [] [(1, pt b7), (2, nt 0), (3, nt 0)] (by kernel_rfl) ?_
 refine GI_end ?_
 refine X_then ?_
 refine V_seq ?_
 refine V_draws (acts [9]) none_ [[0, 1, 2, 3, 4, 5, 6, 7, 8, 9, 10]] (by kernel_rfl) (by repeat first | exact sure_body (by rintro _ _ ⟨h, _⟩; exact ⟨_, h⟩) | refine sure_then ?_ | refine sure_block ?_ | refine sure_join ?_) (by kernel_rfl) ?_
 intro w60 hk59 he61 L hL62
 have hsz63 := Keep.size hk59
 replace hb14 := hb14.keep hk59 (fun f => f)
 replace hK0 := Keep.tr hK0 (Keep.ofNone hk59)
 replace ho48 := VotT.keep ho48 hk59 (fun _ _ f => f)
 replace ho51 := Led.keep ho51 hk59 (fun _ _ f => f)
 have qhb14 := hb14
 have K64 : Keep none_ w60 w60 := Keep.refl _ _
 obtain rfl := List.mem_singleton.1 hL62
 refine GI_static [3, 4, 5, 6, 7, 8, 9, 10] [(1, pt b7), (2, nt 0), (3, nt 0), (25, .pointer (some ⟨b7, 1, none⟩))] (by kernel_rfl) ?_
 refine GI_cell 31 (.tmp 25) 1 (pt v8) (some 26) (by kernel_rfl) (by kernel_rfl) (by kernel_rfl) qhb14 (fun f => f) (m := 1) (by kernel_rfl) rfl ?_
 refine GI_static [7, 8, 9, 10] [(1, pt b7), (2, nt 0), (3, nt 0), (26, pt v8), (29, pt b7)] (by kernel_rfl) ?_
 refine GI_cell 30 (.tmp 29) 0 (pt l9) (some 30) (by kernel_rfl) (by kernel_rfl) (by kernel_rfl) qhb14 (fun f => f) (m := 1) (by kernel_rfl) rfl ?_
 refine GI_static [9, 10] [(1, pt b7), (2, nt 0), (3, nt 0), (26, pt v8), (30, pt l9), (31, .agg #[nt 1, .bool true, nt 2, nt 10, nt 0, nt 0])] (by kernel_rfl) ?_
 refine GI_call0 { callee := (Callee.value (Operand.func 18)), args := #[(Operand.tmp 26), (Operand.tmp 30), (Operand.const (Value.int IntKind.i64 1)), (Operand.const (Value.int IntKind.i64 0)), (Operand.tmp 31)], argTypes := #[31, 30, 3, 3, 23] } 18 #[pt v8, pt l9, nt 1, nt 0, .agg #[nt 1, .bool true, nt 2, nt 10, nt 0, nt 0]] (some 32) (by kernel_rfl) (by kernel_rfl) (by kernel_rfl) (by kernel_rfl) (by kernel_rfl) (vote_spec F47 F50 v8 l9 knS2 knX knC2 1 0 (Vt.mk 1 true 2 10 0 0) _ ho48 ho51 hdis53 (by first | decide | exact kn5)) ?_
 rintro _ w67 ⟨rfl, ⟨F69, F72, ho70, ho73, hfr71, hfr74, hdis75⟩, hk68⟩
 refine ⟨_, rfl, ?_⟩
 have hsz76 := Keep.size hk68
 replace hb14 := hb14.keep hk68 (fun hs => by rcases hs with hs | hs; (have u0 := own56 _ hs; have u1 := lt55 _ hs; omega); (have u0 := own58 _ hs; have u1 := lt57 _ hs; omega))
 replace hK0 := Keep.fresh hK0 hk68 (by intro i hi hs; first | exact hs | (rcases hs with hs | hs; (have u0 := own56 i hs; have u1 := lt55 i hs; omega); (have u0 := own58 i hs; have u1 := lt57 i hs; omega)))
 have own78 : ∀ q, F69 q → w1.heap.size ≤ q ∧ q ≠ b7 := fun q hq => by rcases hfr71 q hq with h | h; (have h1 := own56 q h; have h2 := lt55 q h; omega); omega
 have lt77 := VotT.lt ho70
 have own80 : ∀ q, F72 q → w1.heap.size ≤ q ∧ q ≠ b7 := fun q hq => by rcases hfr74 q hq with h | h; (have h1 := own58 q h; have h2 := lt57 q h; omega); omega
 have lt79 := Led.lt ho73
 replace ho70 : VotT F69 w67 v8 knS3 := by rw [show voteS knX knS2 1 0 (Vt.mk 1 true 2 10 0 0) = knS3 from rfl] at ho70; exact ho70
 replace ho73 : Led F72 w67 l9 knX knC3 := by rw [show voteC knX knC2 knS2 1 0 (Vt.mk 1 true 2 10 0 0) = knC3 from rfl] at ho73; exact ho73
 refine GI_pick [(1, pt b7), (2, nt 0), (3, nt 0), (32, nt (voteE knX knS2 1 0 (Vt.mk 1 true 2 10 0 0)))] (by kernel_rfl) ?_
 refine GI_eq [(1, pt b7), (2, nt 0), (3, nt 0), (32, nt 0)] (by rw [show voteE knX knS2 1 0 (Vt.mk 1 true 2 10 0 0) = 0 from kn3]) ?_
 refine GI_static [] [(1, pt b7), (2, nt 0), (3, nt 0), (4, nt 0)] (by kernel_rfl) ?_
 refine GI_end ?_
 refine X_then ?_
 refine V_seq ?_
 refine V_region ?_
 refine OI_static 10 [(39, .bool true), (42, .pointer (some ⟨b7, 1, none⟩))] (by kernel_rfl) ?_
 refine OI_cell 31 (.tmp 42) 1 (pt v8) (some 43) (by kernel_rfl) (by kernel_rfl) hb14 (m := 1) (by kernel_rfl) rfl ?_
 refine OI_call { callee := (Callee.value (Operand.func 20)), args := #[(Operand.tmp 43), (Operand.const (Value.int IntKind.i64 0))], argTypes := #[31, 3] } 20 #[pt v8, nt 0] (some 44) (by kernel_rfl) (by kernel_rfl) (by kernel_rfl) (tally_spec F69 v8 knS3 0 _ (ho70).1) ?_
 rintro _ w81 ⟨rfl, hk82⟩
 refine ⟨_, rfl, ?_⟩
 have hsz83 := Keep.size hk82
 replace hK0 := Keep.tr hK0 (Keep.ofNone hk82)
 replace ho70 := VotT.keep ho70 hk82 (fun _ _ f => f)
 replace ho73 := Led.keep ho73 hk82 (fun _ _ f => f)
 refine OI_pick [(39, .bool true), (44, .agg (Tly.cells (tallyT knS3 0)).toArray)] (by kernel_rfl) ?_
 refine OI_eq [(39, .bool true), (44, .agg #[nt 30, nt 0, nt 20])] (by rw [kn4]; rfl) ?_
 refine OI_static 13 [(39, .bool true), (44, .agg #[nt 30, nt 0, nt 20]), (45, .agg #[nt 30, nt 0, nt 20])] (by kernel_rfl) ?_
 refine OI_pure (some 46) ((Op.binOp BinOp.eql 43 (Operand.tmp 44) (Operand.tmp 45) 43)) (by kernel_rfl) (pure_eql_same (xs := [nt 30, nt 0, nt 20]) (by kernel_rfl) (by kernel_rfl) (by kernel_rfl) (by kernel_rfl)) ?_
 refine OI_static 16 [(0, .bool true)] (by kernel_rfl) ?_
 refine OI_end rfl ?_
 refine X_then ?_
 refine V_ret ?_
 exact X_return (.bool true) rfl ⟨rfl, hK0⟩
end Go.Al


namespace Go.Al
open Go Go.RowKit Go.Proofs
theorem raise_lt {cs : List Ci} {m : Nat} (h : cs.length < m) (a t n : Int) : (raiseC cs a t n).length < m + 1 := by have := raiseC_len cs a t n; omega
/-! ### A vote that is cast anew -/
end Go.Al


namespace Go.Al
open Go Go.RowKit Go.Proofs
end Go.Al


namespace Go.Al
open Go Go.RowKit Go.Proofs
/-! ### A vote that is taken away -/
end Go.Al


namespace Go.Al
open Go Go.RowKit Go.Proofs
/-! ### What stays locked -/
def prX : List Acc := newX [0, 1000] 10
def prV (aye : Bool) (level n : Int) : Vt := ⟨1, aye, level, n, 0, 0⟩
def prG (aye : Bool) (level n : Int) : Tly := addT Tly.zero (gainT (prV aye level n) ⟨0, 0⟩)
def prS2 (aye : Bool) (level n : Int) : VS := { (openS VS.zero 0 2).setP 0 ⟨2, prG aye level n, 0, 0⟩ with cs := [⟨1, 0, prV aye level n⟩] }
def prS3 (aye : Bool) (level n st : Int) : VS := (prS2 aye level n).setP 0 ⟨2, prG aye level n, st, 10⟩
def prS4 (aye : Bool) (level n st : Int) (r : RecS) : VS := { (prS3 aye level n st).setR 1 2 r with cs := [] }
def prR (won : Bool) (level now n : Int) : RecS := if won = true ∧ 10 + cvPeriod level 8 > now then ⟨none, ⟨0, 0⟩, 10 + cvPeriod level 8, n⟩ else RecS.zero
def prM (won : Bool) (level now n : Int) : Int := if won = true ∧ 10 + cvPeriod level 8 > now then n else 0
def prC (won aye : Bool) (level now n : Int) : List Ci := lockC (raiseC [] 1 2 (capI (prV aye level n))) 1 2 (prM won level now n)
theorem pr0 : newX (msk24 ([0, 1000].take 10)) 10 = prX := by kernel_rfl
theorem prF : (acct prX 1).free = 1000 := by kernel_rfl
theorem pr_per {level : Int} (h3 : 0 ≤ level ∧ level ≤ 6) : 0 ≤ cvPeriod level 8 ∧ cvPeriod level 8 ≤ 256 := by
  rcases (by omega : level = 0 ∨ level = 1 ∨ level = 2 ∨ level = 3 ∨ level = 4 ∨ level = 5 ∨ level = 6) with rfl | rfl | rfl | rfl | rfl | rfl | rfl
  · rw [show cvPeriod 0 8 = 0 by kernel_rfl]; decide
  · rw [show cvPeriod 1 8 = 8 by kernel_rfl]; decide
  · rw [show cvPeriod 2 8 = 16 by kernel_rfl]; decide
  · rw [show cvPeriod 3 8 = 32 by kernel_rfl]; decide
  · rw [show cvPeriod 4 8 = 64 by kernel_rfl]; decide
  · rw [show cvPeriod 5 8 = 128 by kernel_rfl]; decide
  · rw [show cvPeriod 6 8 = 256 by kernel_rfl]; decide
theorem prV_ok {aye : Bool} {level n : Int} (hl : 0 ≤ level ∧ level ≤ 6) (h : 1 ≤ n ∧ n ≤ 1000) : okV (prV aye level n) := ⟨by simp only [prV]; omega, .inl ⟨rfl, hl.1, hl.2, rfl, rfl⟩⟩
theorem prV_c {aye : Bool} {level n : Int} (hl : 0 ≤ level ∧ level ≤ 6) (h : 1 ≤ n ∧ n ≤ 1000) : capI (prV aye level n) = n := by rw [(capI_ok (prV_ok hl h)).1]; simp only [prV]; omega
theorem pr2 {aye : Bool} {level n : Int} (hl : 0 ≤ level ∧ level ≤ 6) (h : 1 ≤ n ∧ n ≤ 1000) : voteE prX (openS VS.zero 0 2) 1 0 (prV aye level n) = 0 ∧ voteS prX (openS VS.zero 0 2) 1 0 (prV aye level n) = prS2 aye level n ∧ ∀ cs, voteC prX cs (openS VS.zero 0 2) 1 0 (prV aye level n) = raiseC cs 1 2 (capI (prV aye level n)) := by
  obtain ⟨g1, g2, g3⟩ := vote_go (xs := prX) (s := openS VS.zero 0 2) (who := 1) (ref := 0) (x := prV aye level n) (q := ⟨2, Tly.zero, 0, 0⟩) (by decide) (prV_ok hl h) (by kernel_rfl) rfl (by kernel_rfl) (by rw [prV_c hl h, prF]; exact h.2) (.inr (by rw [show vrow (openS VS.zero 0 2) 1 2 = [] by kernel_rfl]; decide))
  exact ⟨g1, by rw [g2]; kernel_rfl, g3⟩
theorem pr3 {aye : Bool} {level n st : Int} (hs : st = 2 ∨ st = 3) : closeE (prS2 aye level n) 0 st = 0 ∧ closeS (prS2 aye level n) 0 st 10 = prS3 aye level n st := by
  rcases hs with rfl | rfl
  · exact ⟨by kernel_rfl, by kernel_rfl⟩
  · exact ⟨by kernel_rfl, by kernel_rfl⟩
theorem pr_join {u n now : Int} (hu : 0 < u) (hn : 0 < n) : joinR RecS.zero u n now = if u > now then ⟨none, ⟨0, 0⟩, u, n⟩ else RecS.zero := by
  unfold joinR
  split
  · rw [if_pos (show u > RecS.zero.till from hu), if_pos (show n > RecS.zero.n from hn)]; rfl
  · rfl
theorem pr_same (s : VS) (h : ∀ a t, s.rc a t = RecS.zero) (a t : Int) : s.setR a t RecS.zero = s := by
  unfold VS.setR
  congr 1
  funext b u
  unfold updR
  split
  · exact (h b u).symm
  · rfl
theorem pr4 {aye : Bool} {level n st now : Int} (hs : st = 2 ∨ st = 3) (hl : 0 ≤ level ∧ level ≤ 6) (h : 1 ≤ n ∧ n ≤ 1000) : unvE (prS3 aye level n st) 1 0 = 0 ∧ unvS (prS3 aye level n st) 1 0 now = prS4 aye level n st (prR (wonV (prV aye level n) st) level now n) := by
  have hE : unvE (prS3 aye level n st) 1 0 = 0 := by kernel_rfl
  have hp := pr_per hl
  refine ⟨hE, ?_⟩
  unfold unvS
  rw [if_pos hE]
  show (if st = 0 then _ else if wonV (prV aye level n) st = true then VS.setR { prS3 aye level n st with cs := [] } 1 2 (joinR RecS.zero (w64 (10 + cvPeriod level 8)) n now) else { prS3 aye level n st with cs := [] }) = _
  rw [if_neg (by omega)]
  by_cases hw : wonV (prV aye level n) st = true
  · rw [if_pos hw, hw, w64_id (by omega) (by omega), pr_join (by omega) (by omega)]
    unfold prR
    by_cases hu : 10 + cvPeriod level 8 > now
    · rw [if_pos hu, if_pos ⟨rfl, hu⟩]; rfl
    · rw [if_neg hu, if_neg (fun e => hu e.2)]; rfl
  · rw [if_neg hw]
    unfold prR
    rw [if_neg (fun e => hw e.1)]
    exact (pr_same { prS3 aye level n st with cs := [] } (fun _ _ => rfl) 1 2).symm
theorem pr5 {aye won : Bool} {level n st now : Int} (hn : 0 ≤ now) : unlE 1 2 = 0 ∧ unlS (prS4 aye level n st (prR won level now n)) 1 2 now = prS4 aye level n st (prR won level now n) ∧ ∀ cs, unlC cs (prS4 aye level n st (prR won level now n)) 1 2 now = lockC cs 1 2 (prM won level now n) := by
  have hE : unlE 1 2 = 0 := by kernel_rfl
  have hr : ∀ r : RecS, (prS4 aye level n st r).rc 1 2 = r := fun _ => rfl
  have hv : ∀ r : RecS, vrow (prS4 aye level n st r) 1 2 = [] := fun _ => by kernel_rfl
  refine ⟨hE, ?_, fun cs => ?_⟩
  · unfold unlS
    rw [hr]
    unfold prR
    by_cases hw : won = true ∧ 10 + cvPeriod level 8 > now
    · rw [if_pos hw, if_neg (by rintro ⟨_, h⟩; simp only at h; omega)]
    · rw [if_neg hw, if_pos ⟨hE, hn⟩, show unlR RecS.zero now = RecS.zero from by unfold unlR; rw [if_pos (show RecS.zero.till ≤ now from hn)]; rfl]
      unfold prS4
      show VS.setR (VS.setR { prS3 aye level n st with cs := [] } 1 2 RecS.zero) 1 2 RecS.zero = VS.setR { prS3 aye level n st with cs := [] } 1 2 RecS.zero
      rw [VS.setR_setR]
  · unfold unlC unlN
    rw [if_pos hE, hr]
    unfold prR prM unlM
    by_cases hw : won = true ∧ 10 + cvPeriod level 8 > now
    · rw [if_pos hw, if_pos hw]
      dsimp only
      rw [hr, hv, show unlR ⟨none, ⟨0, 0⟩, 10 + cvPeriod level 8, n⟩ now = ⟨none, ⟨0, 0⟩, 10 + cvPeriod level 8, n⟩ from by unfold unlR; rw [if_neg (by simp only; omega)]]
      rfl
    · rw [if_neg hw, if_neg hw]
      show lockC cs 1 2 (mostL (unlR ((prS4 aye level n st RecS.zero).rc 1 2) now).n _) = _
      rw [hr, hv, show unlR RecS.zero now = RecS.zero from by unfold unlR; rw [if_pos (show RecS.zero.till ≤ now from hn)]; rfl]
      rfl
theorem pr6 {aye won : Bool} {level n st now : Int} (hl : 0 ≤ level ∧ level ≤ 6) : unlS (prS4 aye level n st (prR won level now n)) 1 2 (imax (10 + cvPeriod level 8) now) = prS4 aye level n st RecS.zero ∧ ∀ cs, unlC cs (prS4 aye level n st (prR won level now n)) 1 2 (imax (10 + cvPeriod level 8) now) = lockC cs 1 2 0 := by
  have hE : unlE 1 2 = 0 := by kernel_rfl
  have hp := pr_per hl
  have hr : ∀ r : RecS, (prS4 aye level n st r).rc 1 2 = r := fun _ => rfl
  have hv : ∀ r : RecS, vrow (prS4 aye level n st r) 1 2 = [] := fun _ => by kernel_rfl
  have hm : 10 + cvPeriod level 8 ≤ imax (10 + cvPeriod level 8) now := by unfold imax; split <;> omega
  have ht : (prR won level now n).till ≤ imax (10 + cvPeriod level 8) now := by
    unfold prR
    split
    · exact hm
    · show (0 : Int) ≤ _; omega
  have hu : unlR (prR won level now n) (imax (10 + cvPeriod level 8) now) = RecS.zero := by
    unfold unlR
    rw [if_pos ht]
    unfold prR
    split <;> rfl
  refine ⟨?_, fun cs => ?_⟩
  · unfold unlS
    rw [hr, if_pos ⟨hE, ht⟩, hu]
    unfold prS4
    show VS.setR (VS.setR { prS3 aye level n st with cs := [] } 1 2 _) 1 2 RecS.zero = VS.setR { prS3 aye level n st with cs := [] } 1 2 RecS.zero
    rw [VS.setR_setR]
  · unfold unlC unlN unlM
    rw [if_pos hE, hr, hu, hv]
    have hd : (prR won level now n).d = none := by unfold prR; split <;> rfl
    rw [hd]; rfl
theorem lk_only {C : List Ci} (h : LkOk C) (h2 : ∀ t, t ≠ 2 → lkv C 1 t = 0) {m : Int} (h1 : 0 ≤ m ∧ m ≤ 1000) : lockedL (lockC C 1 2 m) 1 = m ∧ ∀ t, t ≠ 2 → lkv (lockC C 1 2 m) 1 t = 0 := by
  have hl : ∀ t, lkv (lockC C 1 2 m) 1 t = if t = 2 then m else 0 := by
    intro t
    rw [lkv_lock h (by kernel_rfl)]
    by_cases ht : t = 2
    · rw [if_pos ⟨rfl, ht⟩, if_pos ht]; split <;> omega
    · rw [if_neg (fun e => ht e.2), if_neg ht]; exact h2 t ht
  refine ⟨eq_of_le fun d => ?_, fun t ht => by rw [hl, if_neg ht]⟩
  rw [lockedL_lkv (h.lock 1 2 m)]
  constructor
  · rintro ⟨h3, h4⟩
    have e := h4 2
    rw [hl, if_pos rfl] at e; exact e
  · intro h3
    refine ⟨by omega, fun t => ?_⟩
    rw [hl]; split <;> omega
theorem prM_b {won : Bool} {level now n : Int} (h : 1 ≤ n ∧ n ≤ 1000) : 0 ≤ prM won level now n ∧ prM won level now n ≤ 1000 := by unfold prM; split <;> omega
theorem pr_lk {won aye : Bool} {level now n : Int} (hl : 0 ≤ level ∧ level ≤ 6) (h : 1 ≤ n ∧ n ≤ 1000) : lockedL (prC won aye level now n) 1 = prM won level now n ∧ lockedL (lockC (prC won aye level now n) 1 2 0) 1 = 0 := by
  unfold prC
  have hc := prV_c (aye := aye) hl h
  rw [hc]
  have k1 := LkOk.nil.raise 1 2 n
  have e1 : ∀ t, t ≠ 2 → lkv (raiseC [] 1 2 n) 1 t = 0 := fun t ht => by rw [lkv_raise LkOk.nil (by kernel_rfl) (by omega) (by omega), if_neg (fun e => ht e.2)]; rfl
  have h2 := lk_only k1 e1 (prM_b (won := won) (level := level) (now := now) h)
  have h3 := lk_only (k1.lock 1 2 (prM won level now n)) h2.2 (m := 0) (by decide)
  exact ⟨h2.1, h3.1⟩
theorem pr_tr {C : List Ci} (hl : lockedL C 1 = 0) : transE prX C 1 0 1000 = 0 := by
  have hs : spendsE prX C 1 1000 = 0 := by
    unfold spendsE
    rw [if_neg (by rw [show isA 1 = true by kernel_rfl]; rintro (h | h); cases h; exact h ⟨by omega, by omega⟩), if_neg (by rw [prF]; omega), if_neg (by rw [prF, hl]; omega)]
  unfold transE; rw [if_neg (by rw [show isA 0 = true by kernel_rfl]; decide), hs]; rfl
theorem prC_len (won aye : Bool) (level now n : Int) : (prC won aye level now n).length < 100000 := by
  unfold prC
  have h1 := raise_lt (cs := []) (m := 1) (by decide) 1 2 (capI (prV aye level n))
  unfold lockC
  split
  · split
    · have := delC_len 1 2 (raiseC [] 1 2 (capI (prV aye level n))); omega
    · have := setC_len 1 2 (prM won level now n) (raiseC [] 1 2 (capI (prV aye level n))); omega
  · omega
end Go.Al


namespace Go.Al
open Go Go.RowKit Go.Proofs
set_option maxRecDepth 10000 in
set_option maxHeartbeats 1000000 in
theorem unvote_at (F : Nat → Prop) (v : Nat) (P : VP) (s : VS) (who ref now : Int) (w : World) (h : Vot F w v P s) (htr : TrkOk s) : Calls Tryz.prog 25 #[.pointer (some ⟨v, 0, none⟩), .int .i64 who, .int .i64 ref, .int .i64 now] w fun e w' => e = .returned (.int .i64 (unvE s who ref)) ∧ (∃ F', VotE F' w' v (unvS s who ref now) ∧ (∀ q, F' q → F q ∨ w.heap.size ≤ q)) ∧ Keep F w w' := by
 have hFlt := Vot.lt h
 have hvlt := hFlt _ (Vot.at_ h)
 have hFo : ∀ q, F q → 0 ≤ q := fun q _ => Nat.zero_le q
 have hFr : ∀ q, F q → F q ∨ w.heap.size ≤ q := fun _ h => .inl h
 obtain ⟨hvl0, hvb⟩ := Vot.vblk h
 have hFv := Vot.at_ h
 have hinv := Vot.inv h
 have hK0 : Keep F w w := Keep.refl _ _
 have hzhK0 := Keep.size hK0
 refine enterV Tryz.func25 rfl [pt v, nt who, nt ref, nt now] 91 rfl rfl rfl ?_
 refine V_pick [(0, pt v), (1, nt who), (2, nt ref), (3, nt now)] rfl ?_
 refine V_seq ?_
 refine V_region ?_
 refine OI_static 1 [(0, pt v), (1, nt who), (2, nt ref), (3, nt now)] (by kernel_rfl) ?_
 refine OI_end rfl ?_
 refine X_then ?_
 refine V_seq ?_
 refine V_seq ?_
 refine V_region ?_
 refine OI_static 4 [(0, pt v), (1, nt who), (2, nt ref), (3, nt now), (15, .bool false), (16, nt who)] (by kernel_rfl) ?_
 refine OI_call { callee := (Callee.value (Operand.func 47)), args := #[(Operand.tmp 16)], argTypes := #[3] } 47 #[nt who] (some 17) (by kernel_rfl) (by kernel_rfl) (by kernel_rfl) (isAcc_spec who _) ?_
 rintro _ w ⟨rfl, rfl⟩
 refine ⟨_, rfl, ?_⟩
 refine OI_static 7 [(0, pt v), (1, nt who), (2, nt ref), (3, nt now), (19, .bool (!(decide (0 ≤ who ∧ who ≤ 9))))] (by kernel_rfl) ?_
 refine OI_end rfl ?_
 refine X_then ?_
 refine V_not (0 ≤ who ∧ who ≤ 9) (by kernel_rfl) (fun hc6 => ?_) (fun hc6 => ?_)
 ·
  refine V_seq ?_
  refine V_region ?_
  refine OI_static 1 [(8, nt 1)] (by kernel_rfl) ?_
  refine OI_end rfl ?_
  refine X_then ?_
  refine V_ret ?_
  refine X_ret_then ?_
  have hE7 : unvE s who ref = 1 := by unfold unvE; rw [if_pos hc6]
  exact X_return (nt 1) rfl ⟨by rw [hE7], ⟨F, ⟨_, by rw [show unvS s who ref now = s from by unfold unvS; rw [hE7, if_neg (by decide)]]; exact h⟩, hFr⟩, hK0⟩
 ·
  refine V_skip ?_
  refine X_then ?_
  refine V_seq ?_
  refine V_region ?_
  refine OI_static 2 [(0, pt v), (1, nt who), (2, nt ref), (3, nt now), (20, pt v), (21, nt ref)] (by kernel_rfl) ?_
  rcases Vot.pollcase h ref with ⟨hpn8, hpc8⟩ | ⟨i8, b8, q8, hpr8, hpi8, hpp8, hps8, hpa8⟩
  ·
   refine OI_call { callee := (Callee.value (Operand.func 46)), args := #[(Operand.tmp 20), (Operand.tmp 21)], argTypes := #[31, 3] } 46 #[pt v, nt ref] (some 22) (by kernel_rfl) (by kernel_rfl) (by kernel_rfl) (poll_none F v P s ref _ h hpc8) ?_
   rintro _ w11 ⟨rfl, hk12⟩
   refine ⟨_, rfl, ?_⟩
   have hsz13 := Keep.size hk12
   replace hvb := hvb.keep hk12 (fun f => f)
   replace h := Vot.keep h hk12 (fun _ _ f => f)
   replace hK0 := Keep.tr hK0 (Keep.ofNone hk12)
   refine OI_static 4 [(0, pt v), (1, nt who), (2, nt ref), (3, nt now), (9, .pointer none)] (by kernel_rfl) ?_
   refine OI_end rfl ?_
   refine X_then ?_
   refine V_seq ?_
   refine V_seq ?_
   refine V_region ?_
   refine OI_static 2 [(0, pt v), (1, nt who), (2, nt ref), (3, nt now), (9, .pointer none), (24, .bool true)] (by kernel_rfl) ?_
   refine OI_end rfl ?_
   refine X_then ?_
   refine V_true rfl ?_
   refine V_seq ?_
   refine V_region ?_
   refine OI_static 1 [(8, nt 4)] (by kernel_rfl) ?_
   refine OI_end rfl ?_
   refine X_then ?_
   refine V_ret ?_
   refine X_ret_then ?_
   have hE14 : unvE s who ref = 4 := by unfold unvE; rw [if_neg (fun h9 => h9 hc6)]; rw [hpn8]
   exact X_return (nt 4) rfl ⟨by rw [hE14], ⟨F, ⟨_, by rw [show unvS s who ref now = s from by unfold unvS; rw [hE14, if_neg (by decide)]]; exact h⟩, hFr⟩, hK0⟩
  ·
   refine OI_call { callee := (Callee.value (Operand.func 46)), args := #[(Operand.tmp 20), (Operand.tmp 21)], argTypes := #[31, 3] } 46 #[pt v, nt ref] (some 22) (by kernel_rfl) (by kernel_rfl) (by kernel_rfl) ((by rw [hpr8]; exact poll_some F v P s i8 b8 _ h hpi8 hpp8)) ?_
   rintro _ w17 ⟨rfl, hk18⟩
   refine ⟨_, rfl, ?_⟩
   have hsz19 := Keep.size hk18
   replace hvb := hvb.keep hk18 (fun f => f)
   replace h := Vot.keep h hk18 (fun _ _ f => f)
   replace hK0 := Keep.tr hK0 (Keep.ofNone hk18)
   obtain ⟨hm20, hF21⟩ := Vot.pollB h hpp8 hps8
   have hb8lt := hm20.lt
   have hlob8 := hFlt _ hF21
   have hob8 := hFo _ hF21
   have hneb8v : b8 ≠ v := Blk.ne hm20 hvb (by decide)
   refine OI_static 4 [(0, pt v), (1, nt who), (2, nt ref), (3, nt now), (9, pt b8)] (by kernel_rfl) ?_
   refine OI_end rfl ?_
   refine X_then ?_
   refine V_seq ?_
   refine V_seq ?_
   refine V_region ?_
   refine OI_static 2 [(0, pt v), (1, nt who), (2, nt ref), (3, nt now), (9, pt b8), (24, .bool false)] (by kernel_rfl) ?_
   refine OI_end rfl ?_
   refine X_then ?_
   refine V_false rfl ?_
   refine V_skip ?_
   refine X_then ?_
   refine V_seq ?_
   refine V_region ?_
   refine OI_static 5 [(0, pt v), (1, nt who), (2, nt ref), (3, nt now), (9, pt b8), (25, pt v), (26, nt who), (29, pt b8)] (by kernel_rfl) ?_
   refine OI_cell 3 (.tmp 29) 0 (nt ((q8).track)) (some 30) (by kernel_rfl) (by kernel_rfl) hm20 (m := 1) (by kernel_rfl) rfl ?_
   rcases hd22 : (s.rc who ((q8).track)).d with _ | d23
   ·
    refine OI_call { callee := (Callee.value (Operand.func 48)), args := #[(Operand.tmp 25), (Operand.tmp 26), (Operand.tmp 30)], argTypes := #[31, 3, 3] } 48 #[pt v, nt who, nt ((q8).track)] (some 31) (by kernel_rfl) (by kernel_rfl) (by kernel_rfl) (record_spec F v P s who ((q8).track) _ h (by omega) (htr _ _ (by assumption))) ?_
    rintro _ w38 ⟨q28, P29, rfl, hgc33, hpp34, hgv35, hmn36, hdl37, ⟨F30, ho31, hfr32⟩, hk39⟩
    refine ⟨_, rfl, ?_⟩
    have hsz40 := Keep.size hk39
    replace hK0 := Keep.fresh hK0 hk39 (fun i hi hs => by rcases hFr i hs with h | h; exact h; (exfalso; omega))
    have own42 : ∀ q, F30 q → 0 ≤ q := fun q hq => by rcases hfr32 q hq with h | h; (have h1 := hFo q h; have h2 := hFlt q h; omega); omega
    have lt41 := Vot.lt ho31
    have rel43 : ∀ q, F30 q → F q ∨ w.heap.size ≤ q := fun q hq => by rcases hfr32 q hq with h | h; exact hFr q h; exact .inr (by omega)
    have hqb8w38 := (show P29.pp[i8]? = some (some ⟨b8, 0, none⟩) from by rw [hpp34]; exact hpp8)
    have hgq28lt := lt41 _ (Vot.at_ ho31)
    obtain ⟨hvlhm44, hm44⟩ := Vot.vblk ho31
    have hF45 := Vot.at_ ho31
    have hvlt := hm44.lt
    have hlov := lt41 _ hF45
    have hov := own42 _ hF45
    obtain ⟨hm46, hF47⟩ := Vot.pollB ho31 hqb8w38 hps8
    have hb8lt := hm46.lt
    have hlob8 := lt41 _ hF47
    have hob8 := own42 _ hF47
    obtain ⟨hF49, hm48⟩ := Vot.recN ho31 hgc33 hd22
    have hq28lt := hm48.lt
    have hloq28 := lt41 _ hF49
    have hoq28 := own42 _ hF49
    have hneb8v : b8 ≠ v := Blk.ne hm46 hm44 (by decide)
    have hneq28v : q28 ≠ v := Blk.ne hm48 hm44 (by decide)
    have hneq28b8 : q28 ≠ b8 := Blk.ne hm48 hm46 (by decide)
    refine OI_static 8 [(0, pt v), (1, nt who), (2, nt ref), (3, nt now), (9, pt b8), (10, pt q28)] (by kernel_rfl) ?_
    refine OI_end rfl ?_
    refine X_then ?_
    refine V_seq ?_
    refine V_region ?_
    refine OI_static 3 [(0, pt v), (1, nt who), (2, nt ref), (3, nt now), (9, pt b8), (10, pt q28), (35, .pointer (some ⟨v, 12, none⟩))] (by kernel_rfl) ?_
    refine OI_cell 91 (.tmp 35) 12 (pt P29.gv) (some 36) (by kernel_rfl) (by kernel_rfl) hm44 (m := 1) (by kernel_rfl) (by rw [List.getElem?_append_right (by rw [List.length_map]; omega), List.length_map, hvlhm44]; rfl) ?_
    refine OI_static 6 [(0, pt v), (1, nt who), (2, nt ref), (3, nt now), (9, pt b8), (10, pt q28), (36, pt P29.gv), (37, nt who), (38, nt ref)] (by kernel_rfl) ?_
    refine OI_call { callee := (Callee.value (Operand.func 54)), args := #[(Operand.tmp 36), (Operand.tmp 37), (Operand.tmp 38)], argTypes := #[91, 3, 3] } 54 #[pt P29.gv, nt who, nt ref] (some 39) (by kernel_rfl) (by kernel_rfl) (by kernel_rfl) (vget_spec F30 v P29 s who ref _ ho31) ?_
    rintro _ w52 ⟨rfl, hk53⟩
    refine ⟨_, rfl, ?_⟩
    have hsz54 := Keep.size hk53
    replace hm44 := hm44.keep hk53 (fun f => f)
    replace hm46 := hm46.keep hk53 (fun f => f)
    replace hm48 := hm48.keep hk53 (fun f => f)
    replace hK0 := Keep.tr hK0 (Keep.ofNone hk53)
    replace ho31 := Vot.keep ho31 hk53 (fun _ _ f => f)
    refine OI_static 10 [(0, pt v), (1, nt who), (2, nt ref), (3, nt now), (9, pt b8), (10, pt q28), (40, .agg (Vt.cells ((GV.getC who ref s.cs).getD Vt.zero)).toArray), (41, .bool ((GV.getC who ref s.cs).isSome))] (by kernel_rfl) ?_
    refine OI_alloc 23 (.agg #[nt 0, .bool false, nt 0, nt 0, nt 0, nt 0]) [nt 0, .bool false, nt 0, nt 0, nt 0, nt 0] (some 11) (by kernel_rfl) (by kernel_rfl) (by kernel_rfl) ?_
    intro b55 w55 e55 hb55 k55 z55
    have hsz56 := Keep.size k55
    replace hm44 := hm44.keep k55 (fun f => f)
    replace hm46 := hm46.keep k55 (fun f => f)
    replace hm48 := hm48.keep k55 (fun f => f)
    replace hK0 := Keep.tr hK0 (Keep.ofNone k55)
    replace ho31 := Vot.keep ho31 k55 (fun _ _ f => f)
    have hb55lt := hb55.lt
    refine OI_set (m := 6) (kd := true) 23 (.tmp 11) (.tmp 40) 0 (.agg (Vt.cells ((GV.getC who ref s.cs).getD Vt.zero)).toArray) (Vt.cells ((GV.getC who ref s.cs).getD Vt.zero)) none (by kernel_rfl) (by kernel_rfl) (by kernel_rfl) hb55 (by kernel_rfl) rfl (Vt.len _) (Nat.le_of_ble_eq_true (by kernel_rfl)) (Vt.one _) ?_
    intro w57 hb55_60 hk58 hz59
    replace hb55_60 : Blk w57 b55 (Vt.cells ((GV.getC who ref s.cs).getD Vt.zero)) 23 := (by rwa [over_whole (by rw [Vt.len]; rfl)] at hb55_60)
    have hsz61 := Keep.size hk58
    replace hm44 := hm44.keep hk58 (by show ¬ (_ = _); omega)
    replace hm46 := hm46.keep hk58 (by show ¬ (_ = _); omega)
    replace hm48 := hm48.keep hk58 (by show ¬ (_ = _); omega)
    replace hK0 := Keep.fresh hK0 hk58 (by intro i hi hs; first | exact hs | exact Or.inl hs | exact Or.inr hs | (exfalso; have hs2 : i = b55 := hs; omega))
    replace ho31 := Vot.keep ho31 hk58 (fun q hq hs => by have hs : q = b55 := hs; have g0 := own42 q hq; have g1 := lt41 q hq; omega)
    refine OI_static 13 [(0, pt v), (1, nt who), (2, nt ref), (3, nt now), (9, pt b8), (10, pt q28), (11, pt b55), (12, .bool ((GV.getC who ref s.cs).isSome))] (by kernel_rfl) ?_
    refine OI_end rfl ?_
    refine X_then ?_
    refine V_seq ?_
    refine V_seq ?_
    refine V_region ?_
    refine OI_static 2 [(0, pt v), (1, nt who), (2, nt ref), (3, nt now), (9, pt b8), (10, pt q28), (11, pt b55), (43, .bool (!((GV.getC who ref s.cs).isSome)))] (by kernel_rfl) ?_
    refine OI_end rfl ?_
    refine X_then ?_
    refine V_ifb (!((GV.getC who ref s.cs).isSome)) (by kernel_rfl) (fun hc62 => ?_) (fun hc62 => ?_)
    ·
     refine V_seq ?_
     refine V_region ?_
     refine OI_static 1 [(8, nt 4)] (by kernel_rfl) ?_
     refine OI_end rfl ?_
     refine X_then ?_
     refine V_ret ?_
     refine X_ret_then ?_
     have hE63 : unvE s who ref = 4 := by unfold unvE; rw [if_neg (fun h9 => h9 hc6)]; rw [hpa8]; dsimp only; rw [if_neg (by rw [(show (GV.getC who ref s.cs).isSome = false from by simpa using hc62)]; decide)]
     exact X_return (nt 4) rfl ⟨by rw [hE63], ⟨F30, ⟨_, by rw [show unvS s who ref now = s from by unfold unvS; rw [hE63, if_neg (by decide)]]; exact ho31⟩, rel43⟩, hK0⟩
    ·
     refine V_skip ?_
     refine X_then ?_
     refine V_seq ?_
     refine V_region ?_
     refine OI_static 3 [(1, nt who), (2, nt ref), (3, nt now), (9, pt b8), (10, pt q28), (11, pt b55), (46, .pointer (some ⟨v, 12, none⟩))] (by kernel_rfl) ?_
     refine OI_cell 91 (.tmp 46) 12 (pt P29.gv) (some 47) (by kernel_rfl) (by kernel_rfl) hm44 (m := 1) (by kernel_rfl) (by rw [List.getElem?_append_right (by rw [List.length_map]; omega), List.length_map, hvlhm44]; rfl) ?_
     refine OI_static 6 [(3, nt now), (9, pt b8), (10, pt q28), (11, pt b55), (47, pt P29.gv), (48, nt who), (49, nt ref)] (by kernel_rfl) ?_
     refine OI_call { callee := (Callee.value (Operand.func 64)), args := #[(Operand.tmp 47), (Operand.tmp 48), (Operand.tmp 49)], argTypes := #[91, 3, 3] } 64 #[pt P29.gv, nt who, nt ref] (some 50) (by kernel_rfl) (by kernel_rfl) (by kernel_rfl) (vdel_spec F30 v P29 s who ref _ ho31) ?_
     rintro _ w68 ⟨rfl, ⟨F70, ho71, hfr72⟩, hk69⟩
     refine ⟨_, rfl, ?_⟩
     have hsz73 := Keep.size hk69
     replace hb55_60 := hb55_60.keep hk69 (fun hs => by have h1 := own42 _ hs; have h2 := lt41 _ hs; omega)
     replace hK0 := Keep.fresh hK0 hk69 (fun i hi hs => by rcases rel43 i hs with h | h; exact h; (exfalso; omega))
     have own75 : ∀ q, F70 q → 0 ≤ q ∧ q ≠ b55 := fun q hq => by rcases hfr72 q hq with h | h; (have h1 := own42 q h; have h2 := lt41 q h; omega); omega
     have lt74 := Vot.lt ho71
     have rel76 : ∀ q, F70 q → F q ∨ w.heap.size ≤ q := fun q hq => by rcases hfr72 q hq with h | h; exact rel43 q h; exact .inr (by omega)
     obtain ⟨hvlhm77, hm77⟩ := Vot.vblk ho71
     have hF78 := Vot.at_ ho71
     have hvlt := hm77.lt
     have hlov := lt74 _ hF78
     have hov := own75 _ hF78
     obtain ⟨hm79, hF80⟩ := Vot.pollB ho71 hqb8w38 hps8
     have hb8lt := hm79.lt
     have hlob8 := lt74 _ hF80
     have hob8 := own75 _ hF80
     obtain ⟨hF82, hm81⟩ := Vot.recN ho71 hgc33 hd22
     have hq28lt := hm81.lt
     have hloq28 := lt74 _ hF82
     have hoq28 := own75 _ hF82
     have hneb8v : b8 ≠ v := Blk.ne hm79 hm77 (by decide)
     have hneq28v : q28 ≠ v := Blk.ne hm81 hm77 (by decide)
     have hneq28b8 : q28 ≠ b8 := Blk.ne hm81 hm79 (by decide)
     refine OI_end rfl ?_
     refine X_then ?_
     refine V_seq ?_
     refine V_block ?_
     refine V_seq ?_
     refine V_region ?_
     refine OI_static 3 [(3, nt now), (9, pt b8), (10, pt q28), (11, pt b55), (54, .pointer (some ⟨b8, 4, none⟩))] (by kernel_rfl) ?_
     refine OI_cell 3 (.tmp 54) 4 (nt ((q8).state)) (some 55) (by kernel_rfl) (by kernel_rfl) hm79 (m := 1) (by kernel_rfl) rfl ?_
     refine OI_static 6 [(3, nt now), (9, pt b8), (10, pt q28), (11, pt b55), (51, .bool (decide ((q8).state = 0)))] (by kernel_rfl) ?_
     refine OI_end rfl ?_
     refine X_then ?_
     refine V_if ((q8).state = 0) (by kernel_rfl) (fun hc83 => ?_) (fun hc83 => ?_)
     ·
      refine V_draws (acts [10, 11, 14]) none_ [[5, 6, 7, 8, 9, 10, 1, 2, 3, 4, 11, 0, 12, 13, 14]] (by kernel_rfl) (by repeat first | exact sure_body (by rintro _ _ ⟨h, _⟩; exact ⟨_, h⟩) | refine sure_then ?_ | refine sure_block ?_ | refine sure_join ?_) (by kernel_rfl) ?_
      intro w85 hk84 he86 L hL87
      have hsz88 := Keep.size hk84
      replace hb55_60 := hb55_60.keep hk84 (fun f => f)
      replace hm77 := hm77.keep hk84 (fun f => f)
      replace hm79 := hm79.keep hk84 (fun f => f)
      replace hm81 := hm81.keep hk84 (fun f => f)
      replace hK0 := Keep.tr hK0 (Keep.ofNone hk84)
      replace ho71 := Vot.keep ho71 hk84 (fun _ _ f => f)
      have qhb55_60 := hb55_60
      have qhm77 := hm77
      have qhm79 := hm79
      have qhm81 := hm81
      have K89 : Keep none_ w85 w85 := Keep.refl _ _
      obtain rfl := List.mem_singleton.1 hL87
      refine GI_agg 23 (.tmp 11) 0 (Vt.cells ((GV.getC who ref s.cs).getD Vt.zero)) (some 62) (by kernel_rfl) (by kernel_rfl) (by kernel_rfl) qhb55_60 (fun f => f) (m := 6) (by kernel_rfl) (take_all (Vt.len _)) (Vt.len _) ?_
      refine GI_static [9, 10, 1, 2, 3, 4, 11, 0, 12, 13, 14] [(9, pt b8), (62, .agg (Vt.cells ((GV.getC who ref s.cs).getD Vt.zero)).toArray), (65, .pointer (some ⟨q28, 1, none⟩))] (by kernel_rfl) ?_
      refine GI_agg 54 (.tmp 65) 1 [nt (((s.rc who ((q8).track))).got.v), nt (((s.rc who ((q8).track))).got.c)] (some 66) (by kernel_rfl) (by kernel_rfl) (by kernel_rfl) qhm81 (fun f => f) (m := 2) (by kernel_rfl) rfl rfl ?_
      refine GI_call { callee := (Callee.value (Operand.func 57)), args := #[(Operand.tmp 62), (Operand.tmp 66)], argTypes := #[23, 54] } 57 #[.agg (Vt.cells ((GV.getC who ref s.cs).getD Vt.zero)).toArray, .agg #[nt (((s.rc who ((q8).track))).got.v), nt (((s.rc who ((q8).track))).got.c)]] (some 67) (by kernel_rfl) (by kernel_rfl) (by kernel_rfl) (by kernel_rfl) (cvGain_spec ((GV.getC who ref s.cs).getD Vt.zero) (((s.rc who ((q8).track))).got) _) ?_
      rintro _ w92 ⟨rfl, hk93⟩
      have K94 := K89.tr (Keep.ofNone hk93)
      refine ⟨_, rfl, K94, ?_⟩
      have hzK94 := Keep.size K94
      have hsz95 := Keep.size hk93
      replace hb55_60 := hb55_60.keep hk93 (fun f => f)
      replace hm77 := hm77.keep hk93 (fun f => f)
      replace hm79 := hm79.keep hk93 (fun f => f)
      replace hm81 := hm81.keep hk93 (fun f => f)
      replace hK0 := Keep.tr hK0 (Keep.ofNone hk93)
      replace ho71 := Vot.keep ho71 hk93 (fun _ _ f => f)
      refine GI_static [4, 11, 0, 12, 13, 14] [(9, pt b8), (60, .pointer (some ⟨b8, 1, none⟩)), (67, .agg (Tly.cells (gainT ((GV.getC who ref s.cs).getD Vt.zero) (((s.rc who ((q8).track))).got))).toArray)] (by kernel_rfl) ?_
      refine GI_agg 43 (.tmp 60) 1 [nt ((q8).t.a), nt ((q8).t.n), nt ((q8).t.s)] (some 61) (by kernel_rfl) (by kernel_rfl) (by kernel_rfl) qhm79 (fun f => f) (m := 3) (by kernel_rfl) rfl rfl ?_
      refine GI_call { callee := (Callee.value (Operand.func 56)), args := #[(Operand.tmp 61), (Operand.tmp 67)], argTypes := #[43, 43] } 56 #[.agg #[nt ((q8).t.a), nt ((q8).t.n), nt ((q8).t.s)], .agg (Tly.cells (gainT ((GV.getC who ref s.cs).getD Vt.zero) (((s.rc who ((q8).track))).got))).toArray] (some 68) (by kernel_rfl) (by kernel_rfl) (by kernel_rfl) (by kernel_rfl) (cvSub_spec ((q8).t) (gainT ((GV.getC who ref s.cs).getD Vt.zero) (((s.rc who ((q8).track))).got)) _) ?_
      rintro _ w98 ⟨rfl, hk99⟩
      have K100 := K94.tr (Keep.ofNone hk99)
      refine ⟨_, rfl, K100, ?_⟩
      have hzK100 := Keep.size K100
      have hsz101 := Keep.size hk99
      replace hb55_60 := hb55_60.keep hk99 (fun f => f)
      replace hm77 := hm77.keep hk99 (fun f => f)
      replace hm79 := hm79.keep hk99 (fun f => f)
      replace hm81 := hm81.keep hk99 (fun f => f)
      replace hK0 := Keep.tr hK0 (Keep.ofNone hk99)
      replace ho71 := Vot.keep ho71 hk99 (fun _ _ f => f)
      refine GI_static [14] [(68, .agg (Tly.cells (subT ((q8).t) (gainT ((GV.getC who ref s.cs).getD Vt.zero) (((s.rc who ((q8).track))).got)))).toArray), (70, .pointer (some ⟨b8, 1, none⟩))] (by kernel_rfl) ?_
      refine GI_final 14 (by kernel_rfl) (by kernel_rfl) ?_
      refine OI_set (m := 3) (kd := true) 43 (.tmp 70) (.tmp 68) 1 (.agg (Tly.cells (subT ((q8).t) (gainT ((GV.getC who ref s.cs).getD Vt.zero) (((s.rc who ((q8).track))).got)))).toArray) (Tly.cells (subT ((q8).t) (gainT ((GV.getC who ref s.cs).getD Vt.zero) (((s.rc who ((q8).track))).got)))) none (by kernel_rfl) (by kernel_rfl) (by kernel_rfl) hm79 (by kernel_rfl) rfl (Tly.len _) (Nat.le_of_ble_eq_true (by kernel_rfl)) (Tly.one _) ?_
      intro w102 hn105 hk103 hz104
      replace hn105 : Blk w102 b8 (PollS.cells { q8 with t := (subT ((q8).t) (gainT ((GV.getC who ref s.cs).getD Vt.zero) (((s.rc who ((q8).track))).got))) }) 89 := hn105
      have hsz106 := Keep.size hk103
      replace hb55_60 := hb55_60.keep hk103 (by show ¬ (b55 = b8); omega)
      replace hm77 := hm77.keep hk103 (by show ¬ (v = b8); omega)
      replace hm81 := hm81.keep hk103 (by show ¬ (q28 = b8); omega)
      replace hK0 := Keep.fresh hK0 hk103 (fun i hi hs => by have hs : F70 i := (by rw [show i = b8 from hs]; exact hF80); rcases rel76 i hs with h | h; exact h; (exfalso; omega))
      obtain ⟨tv108, htv108⟩ : ∃ t9 : Tly, t9 = (subT ((q8).t) (gainT ((GV.getC who ref s.cs).getD Vt.zero) (((s.rc who ((q8).track))).got))) := ⟨_, rfl⟩
      rw [← htv108] at hn105
      have ho107 := Vot.setPoll ho71 hqb8w38 hps8 hk103 (show Blk _ _ (PollS.cells { q8 with t := tv108 }) _ from hn105)
      have hs109 : (({ s with cs := GV.delC who ref s.cs }).setP i8 { q8 with t := tv108 }).ps[i8]? = some (some { q8 with t := tv108 }) := List.getElem?_set_self (List.getElem?_eq_some_iff.1 hps8).1
      have hb8lt := hn105.lt
      refine OI_end rfl ?_
      refine X_block ?_
      refine X_then ?_
      refine V_seq ?_
      refine V_region ?_
      refine OI_static 1 [(8, nt 0)] (by kernel_rfl) ?_
      refine OI_end rfl ?_
      refine X_then ?_
      refine V_ret ?_
      have hE110 : unvE s who ref = 0 := by unfold unvE; rw [if_neg (fun h9 => h9 hc6)]; rw [hpa8]; dsimp only; rw [if_pos (show (GV.getC who ref s.cs).isSome = true from by simpa using hc62)]
      exact X_return (nt 0) rfl ⟨by rw [hE110], ⟨F70, ⟨_, by rw [show unvS s who ref now = (({ s with cs := GV.delC who ref s.cs }).setP i8 { q8 with t := tv108 }) from by unfold unvS; rw [hE110, if_pos rfl, hpa8]; dsimp only; rw [if_pos hc83, show ref.toNat = i8 from by rw [hpr8]; exact Int.toNat_natCast _, htv108]]; exact ho107⟩, rel76⟩, hK0⟩
     ·
      refine V_seq ?_
      refine V_draws (acts [5]) none_ [[0, 1, 2, 3, 4, 5, 6]] (by kernel_rfl) (by repeat first | exact sure_body (by rintro _ _ ⟨h, _⟩; exact ⟨_, h⟩) | refine sure_then ?_ | refine sure_block ?_ | refine sure_join ?_) (by kernel_rfl) ?_
      intro w112 hk111 he113 L hL114
      have hsz115 := Keep.size hk111
      replace hb55_60 := hb55_60.keep hk111 (fun f => f)
      replace hm77 := hm77.keep hk111 (fun f => f)
      replace hm79 := hm79.keep hk111 (fun f => f)
      replace hm81 := hm81.keep hk111 (fun f => f)
      replace hK0 := Keep.tr hK0 (Keep.ofNone hk111)
      replace ho71 := Vot.keep ho71 hk111 (fun _ _ f => f)
      have qhb55_60 := hb55_60
      have qhm77 := hm77
      have qhm79 := hm79
      have qhm81 := hm81
      have K116 : Keep none_ w112 w112 := Keep.refl _ _
      obtain rfl := List.mem_singleton.1 hL114
      refine GI_agg 23 (.tmp 11) 0 (Vt.cells ((GV.getC who ref s.cs).getD Vt.zero)) (some 72) (by kernel_rfl) (by kernel_rfl) (by kernel_rfl) qhb55_60 (fun f => f) (m := 6) (by kernel_rfl) (take_all (Vt.len _)) (Vt.len _) ?_
      refine GI_static [4, 5, 6] [(3, nt now), (9, pt b8), (10, pt q28), (11, pt b55), (72, .agg (Vt.cells ((GV.getC who ref s.cs).getD Vt.zero)).toArray), (75, .pointer (some ⟨b8, 4, none⟩))] (by kernel_rfl) ?_
      refine GI_cell 3 (.tmp 75) 4 (nt ((q8).state)) (some 76) (by kernel_rfl) (by kernel_rfl) (by kernel_rfl) qhm79 (fun f => f) (m := 1) (by kernel_rfl) rfl ?_
      refine GI_call { callee := (Callee.value (Operand.func 65)), args := #[(Operand.tmp 72), (Operand.tmp 76)], argTypes := #[23, 3] } 65 #[.agg (Vt.cells ((GV.getC who ref s.cs).getD Vt.zero)).toArray, nt ((q8).state)] (some 77) (by kernel_rfl) (by kernel_rfl) (by kernel_rfl) (by kernel_rfl) (won_spec ((GV.getC who ref s.cs).getD Vt.zero) ((q8).state) _) ?_
      rintro _ w119 ⟨rfl, hk120⟩
      have K121 := K116.tr (Keep.ofNone hk120)
      refine ⟨_, rfl, K121, ?_⟩
      have hzK121 := Keep.size K121
      have hsz122 := Keep.size hk120
      replace hb55_60 := hb55_60.keep hk120 (fun f => f)
      replace hm77 := hm77.keep hk120 (fun f => f)
      replace hm79 := hm79.keep hk120 (fun f => f)
      replace hm81 := hm81.keep hk120 (fun f => f)
      replace hK0 := Keep.tr hK0 (Keep.ofNone hk120)
      replace ho71 := Vot.keep ho71 hk120 (fun _ _ f => f)
      refine GI_static [] [(3, nt now), (9, pt b8), (10, pt q28), (11, pt b55), (71, .bool (wonV ((GV.getC who ref s.cs).getD Vt.zero) ((q8).state)))] (by kernel_rfl) ?_
      refine GI_end ?_
      refine X_then ?_
      refine V_ifb (wonV ((GV.getC who ref s.cs).getD Vt.zero) ((q8).state)) (by kernel_rfl) (fun hc123 => ?_) (fun hc123 => ?_)
      ·
       refine V_draws (acts [7, 12]) none_ [[5, 6, 7, 0, 1, 2, 3, 4, 8, 9, 10, 11, 12]] (by kernel_rfl) (by repeat first | exact sure_body (by rintro _ _ ⟨h, _⟩; exact ⟨_, h⟩) | refine sure_then ?_ | refine sure_block ?_ | refine sure_join ?_) (by kernel_rfl) ?_
       intro w125 hk124 he126 L hL127
       have hsz128 := Keep.size hk124
       replace hb55_60 := hb55_60.keep hk124 (fun f => f)
       replace hm77 := hm77.keep hk124 (fun f => f)
       replace hm79 := hm79.keep hk124 (fun f => f)
       replace hm81 := hm81.keep hk124 (fun f => f)
       replace hK0 := Keep.tr hK0 (Keep.ofNone hk124)
       replace ho71 := Vot.keep ho71 hk124 (fun _ _ f => f)
       have qhb55_60 := hb55_60
       have qhm77 := hm77
       have qhm79 := hm79
       have qhm81 := hm81
       have K129 : Keep none_ w125 w125 := Keep.refl _ _
       obtain rfl := List.mem_singleton.1 hL127
       refine GI_static [6, 7, 0, 1, 2, 3, 4, 8, 9, 10, 11, 12] [(3, nt now), (9, pt b8), (10, pt q28), (11, pt b55), (83, .pointer (some ⟨b55, 2, none⟩))] (by kernel_rfl) ?_
       refine GI_cell 3 (.tmp 83) 2 (nt (((GV.getC who ref s.cs).getD Vt.zero).level)) (some 84) (by kernel_rfl) (by kernel_rfl) (by kernel_rfl) qhb55_60 (fun f => f) (m := 1) (by kernel_rfl) rfl ?_
       refine GI_call { callee := (Callee.value (Operand.func 63)), args := #[(Operand.tmp 84), (Operand.const (Value.int IntKind.i64 8))], argTypes := #[3, 3] } 63 #[nt (((GV.getC who ref s.cs).getD Vt.zero).level), nt 8] (some 85) (by kernel_rfl) (by kernel_rfl) (by kernel_rfl) (by kernel_rfl) (cvPeriod_spec (((GV.getC who ref s.cs).getD Vt.zero).level) 8 _ (lev_ok hinv (show (GV.getC who ref s.cs).isSome = true from by simpa using hc62) hc123)) ?_
       rintro _ w125 ⟨rfl, rfl⟩
       refine ⟨_, rfl, K129, ?_⟩
       refine GI_static [4, 8, 9, 10, 11, 12] [(3, nt now), (11, pt b55), (78, pt q28), (81, .pointer (some ⟨b8, 5, none⟩)), (85, nt (cvPeriod (((GV.getC who ref s.cs).getD Vt.zero).level) 8))] (by kernel_rfl) ?_
       refine GI_cell 3 (.tmp 81) 5 (nt ((q8).stop)) (some 82) (by kernel_rfl) (by kernel_rfl) (by kernel_rfl) qhm79 (fun f => f) (m := 1) (by kernel_rfl) rfl ?_
       refine GI_static [10, 11, 12] [(3, nt now), (78, pt q28), (86, nt (IntKind.i64.wrap (((q8).stop) + (cvPeriod (((GV.getC who ref s.cs).getD Vt.zero).level) 8)))), (87, .pointer (some ⟨b55, 3, none⟩))] (by kernel_rfl) ?_
       refine GI_cell 3 (.tmp 87) 3 (nt (((GV.getC who ref s.cs).getD Vt.zero).a)) (some 88) (by kernel_rfl) (by kernel_rfl) (by kernel_rfl) qhb55_60 (fun f => f) (m := 1) (by kernel_rfl) rfl ?_
       refine GI_static [12] [(78, pt q28), (86, nt (IntKind.i64.wrap (((q8).stop) + (cvPeriod (((GV.getC who ref s.cs).getD Vt.zero).level) 8)))), (88, nt (((GV.getC who ref s.cs).getD Vt.zero).a)), (89, nt now)] (by kernel_rfl) ?_
       refine GI_final 12 (by kernel_rfl) (by kernel_rfl) ?_
       refine OI_call { callee := (Callee.value (Operand.func 62)), args := #[(Operand.tmp 78), (Operand.tmp 86), (Operand.tmp 88), (Operand.tmp 89)], argTypes := #[95, 3, 3, 3] } 62 #[pt q28, nt (IntKind.i64.wrap (((q8).stop) + (cvPeriod (((GV.getC who ref s.cs).getD Vt.zero).level) 8))), nt (((GV.getC who ref s.cs).getD Vt.zero).a), nt now] (some 90) (by kernel_rfl) (by kernel_rfl) (by kernel_rfl) (joins_spec q28 none (s.rc who ((q8).track)) (IntKind.i64.wrap (((q8).stop) + (cvPeriod (((GV.getC who ref s.cs).getD Vt.zero).level) 8))) (((GV.getC who ref s.cs).getD Vt.zero).a) now _ hm81) ?_
       rintro _ w137 ⟨rfl, hn139, hk138⟩
       refine ⟨_, rfl, ?_⟩
       have hsz140 := Keep.size hk138
       replace hb55_60 := hb55_60.keep hk138 (by show ¬ (b55 = q28); omega)
       replace hm77 := hm77.keep hk138 (by show ¬ (v = q28); omega)
       replace hK0 := Keep.fresh hK0 hk138 (fun i hi hs => by have hs : F70 i := (by rw [show i = q28 from hs]; exact hF82); rcases rel76 i hs with h | h; exact h; (exfalso; omega))
       have ho141 := Vot.setRec (a := who) (t := ((q8).track)) (r' := (joinR (s.rc who ((q8).track)) (IntKind.i64.wrap (((q8).stop) + (cvPeriod (((GV.getC who ref s.cs).getD Vt.zero).level) 8))) (((GV.getC who ref s.cs).getD Vt.zero).a) now)) (dp := none) (dp' := none) ho71 hgc33 hm81 hk138 (show Blk _ _ (RecS.cells none (joinR (s.rc who ((q8).track)) (IntKind.i64.wrap (((q8).stop) + (cvPeriod (((GV.getC who ref s.cs).getD Vt.zero).level) 8))) (((GV.getC who ref s.cs).getD Vt.zero).a) now)) _ from hn139) (.inl ⟨rfl, by first | rfl | exact joinR_d _ _ _ _ | (rw [show ({ s with cs := GV.delC who ref s.cs }).rc who ((q8).track) = (s.rc who ((q8).track)) from rfl]) | (rw [show ({ s with cs := GV.delC who ref s.cs }).rc who ((q8).track) = (s.rc who ((q8).track)) from rfl]; exact joinR_d _ _ _ _)⟩)
       obtain ⟨r142, hr142⟩ : ∃ r9 : RecS, r9 = (joinR (s.rc who ((q8).track)) (IntKind.i64.wrap (((q8).stop) + (cvPeriod (((GV.getC who ref s.cs).getD Vt.zero).level) 8))) (((GV.getC who ref s.cs).getD Vt.zero).a) now) := ⟨_, rfl⟩
       replace hn139 : Blk w137 q28 (RecS.cells none r142) 99 := by rw [hr142]; exact hn139
       have hq28lt := hn139.lt
       refine OI_end rfl ?_
       refine X_block ?_
       refine X_then ?_
       refine V_seq ?_
       refine V_region ?_
       refine OI_static 1 [(8, nt 0)] (by kernel_rfl) ?_
       refine OI_end rfl ?_
       refine X_then ?_
       refine V_ret ?_
       have hE143 : unvE s who ref = 0 := by unfold unvE; rw [if_neg (fun h9 => h9 hc6)]; rw [hpa8]; dsimp only; rw [if_pos (show (GV.getC who ref s.cs).isSome = true from by simpa using hc62)]
       exact X_return (nt 0) rfl ⟨by rw [hE143], ⟨F70, ⟨_, by rw [show unvS s who ref now = (({ s with cs := GV.delC who ref s.cs }).setR who ((q8).track) (joinR (s.rc who ((q8).track)) (IntKind.i64.wrap (((q8).stop) + (cvPeriod (((GV.getC who ref s.cs).getD Vt.zero).level) 8))) (((GV.getC who ref s.cs).getD Vt.zero).a) now)) from by unfold unvS; rw [hE143, if_pos rfl, hpa8]; dsimp only; rw [if_neg hc83]; rw [if_pos hc123]]; exact ho141⟩, rel76⟩, hK0⟩
      ·
       refine V_skip ?_
       refine X_block ?_
       refine X_then ?_
       refine V_seq ?_
       refine V_region ?_
       refine OI_static 1 [(8, nt 0)] (by kernel_rfl) ?_
       refine OI_end rfl ?_
       refine X_then ?_
       refine V_ret ?_
       have hE144 : unvE s who ref = 0 := by unfold unvE; rw [if_neg (fun h9 => h9 hc6)]; rw [hpa8]; dsimp only; rw [if_pos (show (GV.getC who ref s.cs).isSome = true from by simpa using hc62)]
       exact X_return (nt 0) rfl ⟨by rw [hE144], ⟨F70, ⟨_, by rw [show unvS s who ref now = ({ s with cs := GV.delC who ref s.cs }) from by unfold unvS; rw [hE144, if_pos rfl, hpa8]; dsimp only; rw [if_neg hc83]; rw [if_neg (by rw [hc123]; decide)]]; exact ho71⟩, rel76⟩, hK0⟩
   ·
    refine OI_call { callee := (Callee.value (Operand.func 48)), args := #[(Operand.tmp 25), (Operand.tmp 26), (Operand.tmp 30)], argTypes := #[31, 3, 3] } 48 #[pt v, nt who, nt ((q8).track)] (some 31) (by kernel_rfl) (by kernel_rfl) (by kernel_rfl) (record_spec F v P s who ((q8).track) _ h (by omega) (htr _ _ (by assumption))) ?_
    rintro _ w159 ⟨q149, P150, rfl, hgc154, hpp155, hgv156, hmn157, hdl158, ⟨F151, ho152, hfr153⟩, hk160⟩
    refine ⟨_, rfl, ?_⟩
    have hsz161 := Keep.size hk160
    replace hK0 := Keep.fresh hK0 hk160 (fun i hi hs => by rcases hFr i hs with h | h; exact h; (exfalso; omega))
    have own163 : ∀ q, F151 q → 0 ≤ q := fun q hq => by rcases hfr153 q hq with h | h; (have h1 := hFo q h; have h2 := hFlt q h; omega); omega
    have lt162 := Vot.lt ho152
    have rel164 : ∀ q, F151 q → F q ∨ w.heap.size ≤ q := fun q hq => by rcases hfr153 q hq with h | h; exact hFr q h; exact .inr (by omega)
    have hqb8w159 := (show P150.pp[i8]? = some (some ⟨b8, 0, none⟩) from by rw [hpp155]; exact hpp8)
    have hgq149lt := lt162 _ (Vot.at_ ho152)
    obtain ⟨hvlhm165, hm165⟩ := Vot.vblk ho152
    have hF166 := Vot.at_ ho152
    have hvlt := hm165.lt
    have hlov := lt162 _ hF166
    have hov := own163 _ hF166
    obtain ⟨hm167, hF168⟩ := Vot.pollB ho152 hqb8w159 hps8
    have hb8lt := hm167.lt
    have hlob8 := lt162 _ hF168
    have hob8 := own163 _ hF168
    obtain ⟨bd171, hF170, hF172, hm169, hm173⟩ := Vot.recD ho152 hgc154 hd22
    have hbd171lt := hm173.lt
    have hlobd171 := lt162 _ hF172
    have hobd171 := own163 _ hF172
    have hq149lt := hm169.lt
    have hloq149 := lt162 _ hF170
    have hoq149 := own163 _ hF170
    have hneb8v : b8 ≠ v := Blk.ne hm167 hm165 (by decide)
    have hneq149v : q149 ≠ v := Blk.ne hm169 hm165 (by decide)
    have hneq149b8 : q149 ≠ b8 := Blk.ne hm169 hm167 (by decide)
    have hnebd171v : bd171 ≠ v := Blk.ne hm173 hm165 (by decide)
    have hnebd171b8 : bd171 ≠ b8 := Blk.ne hm173 hm167 (by decide)
    have hnebd171q149 : bd171 ≠ q149 := Blk.ne hm173 hm169 (by decide)
    refine OI_static 8 [(0, pt v), (1, nt who), (2, nt ref), (3, nt now), (9, pt b8), (10, pt q149)] (by kernel_rfl) ?_
    refine OI_end rfl ?_
    refine X_then ?_
    refine V_seq ?_
    refine V_region ?_
    refine OI_static 3 [(0, pt v), (1, nt who), (2, nt ref), (3, nt now), (9, pt b8), (10, pt q149), (35, .pointer (some ⟨v, 12, none⟩))] (by kernel_rfl) ?_
    refine OI_cell 91 (.tmp 35) 12 (pt P150.gv) (some 36) (by kernel_rfl) (by kernel_rfl) hm165 (m := 1) (by kernel_rfl) (by rw [List.getElem?_append_right (by rw [List.length_map]; omega), List.length_map, hvlhm165]; rfl) ?_
    refine OI_static 6 [(0, pt v), (1, nt who), (2, nt ref), (3, nt now), (9, pt b8), (10, pt q149), (36, pt P150.gv), (37, nt who), (38, nt ref)] (by kernel_rfl) ?_
    refine OI_call { callee := (Callee.value (Operand.func 54)), args := #[(Operand.tmp 36), (Operand.tmp 37), (Operand.tmp 38)], argTypes := #[91, 3, 3] } 54 #[pt P150.gv, nt who, nt ref] (some 39) (by kernel_rfl) (by kernel_rfl) (by kernel_rfl) (vget_spec F151 v P150 s who ref _ ho152) ?_
    rintro _ w176 ⟨rfl, hk177⟩
    refine ⟨_, rfl, ?_⟩
    have hsz178 := Keep.size hk177
    replace hm165 := hm165.keep hk177 (fun f => f)
    replace hm167 := hm167.keep hk177 (fun f => f)
    replace hm173 := hm173.keep hk177 (fun f => f)
    replace hm169 := hm169.keep hk177 (fun f => f)
    replace hK0 := Keep.tr hK0 (Keep.ofNone hk177)
    replace ho152 := Vot.keep ho152 hk177 (fun _ _ f => f)
    refine OI_static 10 [(0, pt v), (1, nt who), (2, nt ref), (3, nt now), (9, pt b8), (10, pt q149), (40, .agg (Vt.cells ((GV.getC who ref s.cs).getD Vt.zero)).toArray), (41, .bool ((GV.getC who ref s.cs).isSome))] (by kernel_rfl) ?_
    refine OI_alloc 23 (.agg #[nt 0, .bool false, nt 0, nt 0, nt 0, nt 0]) [nt 0, .bool false, nt 0, nt 0, nt 0, nt 0] (some 11) (by kernel_rfl) (by kernel_rfl) (by kernel_rfl) ?_
    intro b179 w179 e179 hb179 k179 z179
    have hsz180 := Keep.size k179
    replace hm165 := hm165.keep k179 (fun f => f)
    replace hm167 := hm167.keep k179 (fun f => f)
    replace hm173 := hm173.keep k179 (fun f => f)
    replace hm169 := hm169.keep k179 (fun f => f)
    replace hK0 := Keep.tr hK0 (Keep.ofNone k179)
    replace ho152 := Vot.keep ho152 k179 (fun _ _ f => f)
    have hb179lt := hb179.lt
    refine OI_set (m := 6) (kd := true) 23 (.tmp 11) (.tmp 40) 0 (.agg (Vt.cells ((GV.getC who ref s.cs).getD Vt.zero)).toArray) (Vt.cells ((GV.getC who ref s.cs).getD Vt.zero)) none (by kernel_rfl) (by kernel_rfl) (by kernel_rfl) hb179 (by kernel_rfl) rfl (Vt.len _) (Nat.le_of_ble_eq_true (by kernel_rfl)) (Vt.one _) ?_
    intro w181 hb179_184 hk182 hz183
    replace hb179_184 : Blk w181 b179 (Vt.cells ((GV.getC who ref s.cs).getD Vt.zero)) 23 := (by rwa [over_whole (by rw [Vt.len]; rfl)] at hb179_184)
    have hsz185 := Keep.size hk182
    replace hm165 := hm165.keep hk182 (by show ¬ (_ = _); omega)
    replace hm167 := hm167.keep hk182 (by show ¬ (_ = _); omega)
    replace hm173 := hm173.keep hk182 (by show ¬ (_ = _); omega)
    replace hm169 := hm169.keep hk182 (by show ¬ (_ = _); omega)
    replace hK0 := Keep.fresh hK0 hk182 (by intro i hi hs; first | exact hs | exact Or.inl hs | exact Or.inr hs | (exfalso; have hs2 : i = b179 := hs; omega))
    replace ho152 := Vot.keep ho152 hk182 (fun q hq hs => by have hs : q = b179 := hs; have g0 := own163 q hq; have g1 := lt162 q hq; omega)
    refine OI_static 13 [(0, pt v), (1, nt who), (2, nt ref), (3, nt now), (9, pt b8), (10, pt q149), (11, pt b179), (12, .bool ((GV.getC who ref s.cs).isSome))] (by kernel_rfl) ?_
    refine OI_end rfl ?_
    refine X_then ?_
    refine V_seq ?_
    refine V_seq ?_
    refine V_region ?_
    refine OI_static 2 [(0, pt v), (1, nt who), (2, nt ref), (3, nt now), (9, pt b8), (10, pt q149), (11, pt b179), (43, .bool (!((GV.getC who ref s.cs).isSome)))] (by kernel_rfl) ?_
    refine OI_end rfl ?_
    refine X_then ?_
    refine V_ifb (!((GV.getC who ref s.cs).isSome)) (by kernel_rfl) (fun hc186 => ?_) (fun hc186 => ?_)
    ·
     refine V_seq ?_
     refine V_region ?_
     refine OI_static 1 [(8, nt 4)] (by kernel_rfl) ?_
     refine OI_end rfl ?_
     refine X_then ?_
     refine V_ret ?_
     refine X_ret_then ?_
     have hE187 : unvE s who ref = 4 := by unfold unvE; rw [if_neg (fun h9 => h9 hc6)]; rw [hpa8]; dsimp only; rw [if_neg (by rw [(show (GV.getC who ref s.cs).isSome = false from by simpa using hc186)]; decide)]
     exact X_return (nt 4) rfl ⟨by rw [hE187], ⟨F151, ⟨_, by rw [show unvS s who ref now = s from by unfold unvS; rw [hE187, if_neg (by decide)]]; exact ho152⟩, rel164⟩, hK0⟩
    ·
     refine V_skip ?_
     refine X_then ?_
     refine V_seq ?_
     refine V_region ?_
     refine OI_static 3 [(1, nt who), (2, nt ref), (3, nt now), (9, pt b8), (10, pt q149), (11, pt b179), (46, .pointer (some ⟨v, 12, none⟩))] (by kernel_rfl) ?_
     refine OI_cell 91 (.tmp 46) 12 (pt P150.gv) (some 47) (by kernel_rfl) (by kernel_rfl) hm165 (m := 1) (by kernel_rfl) (by rw [List.getElem?_append_right (by rw [List.length_map]; omega), List.length_map, hvlhm165]; rfl) ?_
     refine OI_static 6 [(3, nt now), (9, pt b8), (10, pt q149), (11, pt b179), (47, pt P150.gv), (48, nt who), (49, nt ref)] (by kernel_rfl) ?_
     refine OI_call { callee := (Callee.value (Operand.func 64)), args := #[(Operand.tmp 47), (Operand.tmp 48), (Operand.tmp 49)], argTypes := #[91, 3, 3] } 64 #[pt P150.gv, nt who, nt ref] (some 50) (by kernel_rfl) (by kernel_rfl) (by kernel_rfl) (vdel_spec F151 v P150 s who ref _ ho152) ?_
     rintro _ w192 ⟨rfl, ⟨F194, ho195, hfr196⟩, hk193⟩
     refine ⟨_, rfl, ?_⟩
     have hsz197 := Keep.size hk193
     replace hb179_184 := hb179_184.keep hk193 (fun hs => by have h1 := own163 _ hs; have h2 := lt162 _ hs; omega)
     replace hK0 := Keep.fresh hK0 hk193 (fun i hi hs => by rcases rel164 i hs with h | h; exact h; (exfalso; omega))
     have own199 : ∀ q, F194 q → 0 ≤ q ∧ q ≠ b179 := fun q hq => by rcases hfr196 q hq with h | h; (have h1 := own163 q h; have h2 := lt162 q h; omega); omega
     have lt198 := Vot.lt ho195
     have rel200 : ∀ q, F194 q → F q ∨ w.heap.size ≤ q := fun q hq => by rcases hfr196 q hq with h | h; exact rel164 q h; exact .inr (by omega)
     obtain ⟨hvlhm201, hm201⟩ := Vot.vblk ho195
     have hF202 := Vot.at_ ho195
     have hvlt := hm201.lt
     have hlov := lt198 _ hF202
     have hov := own199 _ hF202
     obtain ⟨hm203, hF204⟩ := Vot.pollB ho195 hqb8w159 hps8
     have hb8lt := hm203.lt
     have hlob8 := lt198 _ hF204
     have hob8 := own199 _ hF204
     obtain ⟨bd207, hF206, hF208, hm205, hm209⟩ := Vot.recD ho195 hgc154 hd22
     have hbd207lt := hm209.lt
     have hlobd207 := lt198 _ hF208
     have hobd207 := own199 _ hF208
     have hq149lt := hm205.lt
     have hloq149 := lt198 _ hF206
     have hoq149 := own199 _ hF206
     have hneb8v : b8 ≠ v := Blk.ne hm203 hm201 (by decide)
     have hneq149v : q149 ≠ v := Blk.ne hm205 hm201 (by decide)
     have hneq149b8 : q149 ≠ b8 := Blk.ne hm205 hm203 (by decide)
     have hnebd207v : bd207 ≠ v := Blk.ne hm209 hm201 (by decide)
     have hnebd207b8 : bd207 ≠ b8 := Blk.ne hm209 hm203 (by decide)
     have hnebd207q149 : bd207 ≠ q149 := Blk.ne hm209 hm205 (by decide)
     refine OI_end rfl ?_
     refine X_then ?_
     refine V_seq ?_
     refine V_block ?_
     refine V_seq ?_
     refine V_region ?_
     refine OI_static 3 [(3, nt now), (9, pt b8), (10, pt q149), (11, pt b179), (54, .pointer (some ⟨b8, 4, none⟩))] (by kernel_rfl) ?_
     refine OI_cell 3 (.tmp 54) 4 (nt ((q8).state)) (some 55) (by kernel_rfl) (by kernel_rfl) hm203 (m := 1) (by kernel_rfl) rfl ?_
     refine OI_static 6 [(3, nt now), (9, pt b8), (10, pt q149), (11, pt b179), (51, .bool (decide ((q8).state = 0)))] (by kernel_rfl) ?_
     refine OI_end rfl ?_
     refine X_then ?_
     refine V_if ((q8).state = 0) (by kernel_rfl) (fun hc210 => ?_) (fun hc210 => ?_)
     ·
      refine V_draws (acts [10, 11, 14]) none_ [[5, 6, 7, 8, 9, 10, 1, 2, 3, 4, 11, 0, 12, 13, 14]] (by kernel_rfl) (by repeat first | exact sure_body (by rintro _ _ ⟨h, _⟩; exact ⟨_, h⟩) | refine sure_then ?_ | refine sure_block ?_ | refine sure_join ?_) (by kernel_rfl) ?_
      intro w212 hk211 he213 L hL214
      have hsz215 := Keep.size hk211
      replace hb179_184 := hb179_184.keep hk211 (fun f => f)
      replace hm201 := hm201.keep hk211 (fun f => f)
      replace hm203 := hm203.keep hk211 (fun f => f)
      replace hm209 := hm209.keep hk211 (fun f => f)
      replace hm205 := hm205.keep hk211 (fun f => f)
      replace hK0 := Keep.tr hK0 (Keep.ofNone hk211)
      replace ho195 := Vot.keep ho195 hk211 (fun _ _ f => f)
      have qhb179_184 := hb179_184
      have qhm201 := hm201
      have qhm203 := hm203
      have qhm209 := hm209
      have qhm205 := hm205
      have K216 : Keep none_ w212 w212 := Keep.refl _ _
      obtain rfl := List.mem_singleton.1 hL214
      refine GI_agg 23 (.tmp 11) 0 (Vt.cells ((GV.getC who ref s.cs).getD Vt.zero)) (some 62) (by kernel_rfl) (by kernel_rfl) (by kernel_rfl) qhb179_184 (fun f => f) (m := 6) (by kernel_rfl) (take_all (Vt.len _)) (Vt.len _) ?_
      refine GI_static [9, 10, 1, 2, 3, 4, 11, 0, 12, 13, 14] [(9, pt b8), (62, .agg (Vt.cells ((GV.getC who ref s.cs).getD Vt.zero)).toArray), (65, .pointer (some ⟨q149, 1, none⟩))] (by kernel_rfl) ?_
      refine GI_agg 54 (.tmp 65) 1 [nt (((s.rc who ((q8).track))).got.v), nt (((s.rc who ((q8).track))).got.c)] (some 66) (by kernel_rfl) (by kernel_rfl) (by kernel_rfl) qhm205 (fun f => f) (m := 2) (by kernel_rfl) rfl rfl ?_
      refine GI_call { callee := (Callee.value (Operand.func 57)), args := #[(Operand.tmp 62), (Operand.tmp 66)], argTypes := #[23, 54] } 57 #[.agg (Vt.cells ((GV.getC who ref s.cs).getD Vt.zero)).toArray, .agg #[nt (((s.rc who ((q8).track))).got.v), nt (((s.rc who ((q8).track))).got.c)]] (some 67) (by kernel_rfl) (by kernel_rfl) (by kernel_rfl) (by kernel_rfl) (cvGain_spec ((GV.getC who ref s.cs).getD Vt.zero) (((s.rc who ((q8).track))).got) _) ?_
      rintro _ w219 ⟨rfl, hk220⟩
      have K221 := K216.tr (Keep.ofNone hk220)
      refine ⟨_, rfl, K221, ?_⟩
      have hzK221 := Keep.size K221
      have hsz222 := Keep.size hk220
      replace hb179_184 := hb179_184.keep hk220 (fun f => f)
      replace hm201 := hm201.keep hk220 (fun f => f)
      replace hm203 := hm203.keep hk220 (fun f => f)
      replace hm209 := hm209.keep hk220 (fun f => f)
      replace hm205 := hm205.keep hk220 (fun f => f)
      replace hK0 := Keep.tr hK0 (Keep.ofNone hk220)
      replace ho195 := Vot.keep ho195 hk220 (fun _ _ f => f)
      refine GI_static [4, 11, 0, 12, 13, 14] [(9, pt b8), (60, .pointer (some ⟨b8, 1, none⟩)), (67, .agg (Tly.cells (gainT ((GV.getC who ref s.cs).getD Vt.zero) (((s.rc who ((q8).track))).got))).toArray)] (by kernel_rfl) ?_
      refine GI_agg 43 (.tmp 60) 1 [nt ((q8).t.a), nt ((q8).t.n), nt ((q8).t.s)] (some 61) (by kernel_rfl) (by kernel_rfl) (by kernel_rfl) qhm203 (fun f => f) (m := 3) (by kernel_rfl) rfl rfl ?_
      refine GI_call { callee := (Callee.value (Operand.func 56)), args := #[(Operand.tmp 61), (Operand.tmp 67)], argTypes := #[43, 43] } 56 #[.agg #[nt ((q8).t.a), nt ((q8).t.n), nt ((q8).t.s)], .agg (Tly.cells (gainT ((GV.getC who ref s.cs).getD Vt.zero) (((s.rc who ((q8).track))).got))).toArray] (some 68) (by kernel_rfl) (by kernel_rfl) (by kernel_rfl) (by kernel_rfl) (cvSub_spec ((q8).t) (gainT ((GV.getC who ref s.cs).getD Vt.zero) (((s.rc who ((q8).track))).got)) _) ?_
      rintro _ w225 ⟨rfl, hk226⟩
      have K227 := K221.tr (Keep.ofNone hk226)
      refine ⟨_, rfl, K227, ?_⟩
      have hzK227 := Keep.size K227
      have hsz228 := Keep.size hk226
      replace hb179_184 := hb179_184.keep hk226 (fun f => f)
      replace hm201 := hm201.keep hk226 (fun f => f)
      replace hm203 := hm203.keep hk226 (fun f => f)
      replace hm209 := hm209.keep hk226 (fun f => f)
      replace hm205 := hm205.keep hk226 (fun f => f)
      replace hK0 := Keep.tr hK0 (Keep.ofNone hk226)
      replace ho195 := Vot.keep ho195 hk226 (fun _ _ f => f)
      refine GI_static [14] [(68, .agg (Tly.cells (subT ((q8).t) (gainT ((GV.getC who ref s.cs).getD Vt.zero) (((s.rc who ((q8).track))).got)))).toArray), (70, .pointer (some ⟨b8, 1, none⟩))] (by kernel_rfl) ?_
      refine GI_final 14 (by kernel_rfl) (by kernel_rfl) ?_
      refine OI_set (m := 3) (kd := true) 43 (.tmp 70) (.tmp 68) 1 (.agg (Tly.cells (subT ((q8).t) (gainT ((GV.getC who ref s.cs).getD Vt.zero) (((s.rc who ((q8).track))).got)))).toArray) (Tly.cells (subT ((q8).t) (gainT ((GV.getC who ref s.cs).getD Vt.zero) (((s.rc who ((q8).track))).got)))) none (by kernel_rfl) (by kernel_rfl) (by kernel_rfl) hm203 (by kernel_rfl) rfl (Tly.len _) (Nat.le_of_ble_eq_true (by kernel_rfl)) (Tly.one _) ?_
      intro w229 hn232 hk230 hz231
      replace hn232 : Blk w229 b8 (PollS.cells { q8 with t := (subT ((q8).t) (gainT ((GV.getC who ref s.cs).getD Vt.zero) (((s.rc who ((q8).track))).got))) }) 89 := hn232
      have hsz233 := Keep.size hk230
      replace hb179_184 := hb179_184.keep hk230 (by show ¬ (b179 = b8); omega)
      replace hm201 := hm201.keep hk230 (by show ¬ (v = b8); omega)
      replace hm209 := hm209.keep hk230 (by show ¬ (bd207 = b8); omega)
      replace hm205 := hm205.keep hk230 (by show ¬ (q149 = b8); omega)
      replace hK0 := Keep.fresh hK0 hk230 (fun i hi hs => by have hs : F194 i := (by rw [show i = b8 from hs]; exact hF204); rcases rel200 i hs with h | h; exact h; (exfalso; omega))
      obtain ⟨tv235, htv235⟩ : ∃ t9 : Tly, t9 = (subT ((q8).t) (gainT ((GV.getC who ref s.cs).getD Vt.zero) (((s.rc who ((q8).track))).got))) := ⟨_, rfl⟩
      rw [← htv235] at hn232
      have ho234 := Vot.setPoll ho195 hqb8w159 hps8 hk230 (show Blk _ _ (PollS.cells { q8 with t := tv235 }) _ from hn232)
      have hs236 : (({ s with cs := GV.delC who ref s.cs }).setP i8 { q8 with t := tv235 }).ps[i8]? = some (some { q8 with t := tv235 }) := List.getElem?_set_self (List.getElem?_eq_some_iff.1 hps8).1
      have hb8lt := hn232.lt
      refine OI_end rfl ?_
      refine X_block ?_
      refine X_then ?_
      refine V_seq ?_
      refine V_region ?_
      refine OI_static 1 [(8, nt 0)] (by kernel_rfl) ?_
      refine OI_end rfl ?_
      refine X_then ?_
      refine V_ret ?_
      have hE237 : unvE s who ref = 0 := by unfold unvE; rw [if_neg (fun h9 => h9 hc6)]; rw [hpa8]; dsimp only; rw [if_pos (show (GV.getC who ref s.cs).isSome = true from by simpa using hc186)]
      exact X_return (nt 0) rfl ⟨by rw [hE237], ⟨F194, ⟨_, by rw [show unvS s who ref now = (({ s with cs := GV.delC who ref s.cs }).setP i8 { q8 with t := tv235 }) from by unfold unvS; rw [hE237, if_pos rfl, hpa8]; dsimp only; rw [if_pos hc210, show ref.toNat = i8 from by rw [hpr8]; exact Int.toNat_natCast _, htv235]]; exact ho234⟩, rel200⟩, hK0⟩
     ·
      refine V_seq ?_
      refine V_draws (acts [5]) none_ [[0, 1, 2, 3, 4, 5, 6]] (by kernel_rfl) (by repeat first | exact sure_body (by rintro _ _ ⟨h, _⟩; exact ⟨_, h⟩) | refine sure_then ?_ | refine sure_block ?_ | refine sure_join ?_) (by kernel_rfl) ?_
      intro w239 hk238 he240 L hL241
      have hsz242 := Keep.size hk238
      replace hb179_184 := hb179_184.keep hk238 (fun f => f)
      replace hm201 := hm201.keep hk238 (fun f => f)
      replace hm203 := hm203.keep hk238 (fun f => f)
      replace hm209 := hm209.keep hk238 (fun f => f)
      replace hm205 := hm205.keep hk238 (fun f => f)
      replace hK0 := Keep.tr hK0 (Keep.ofNone hk238)
      replace ho195 := Vot.keep ho195 hk238 (fun _ _ f => f)
      have qhb179_184 := hb179_184
      have qhm201 := hm201
      have qhm203 := hm203
      have qhm209 := hm209
      have qhm205 := hm205
      have K243 : Keep none_ w239 w239 := Keep.refl _ _
      obtain rfl := List.mem_singleton.1 hL241
      refine GI_agg 23 (.tmp 11) 0 (Vt.cells ((GV.getC who ref s.cs).getD Vt.zero)) (some 72) (by kernel_rfl) (by kernel_rfl) (by kernel_rfl) qhb179_184 (fun f => f) (m := 6) (by kernel_rfl) (take_all (Vt.len _)) (Vt.len _) ?_
      refine GI_static [4, 5, 6] [(3, nt now), (9, pt b8), (10, pt q149), (11, pt b179), (72, .agg (Vt.cells ((GV.getC who ref s.cs).getD Vt.zero)).toArray), (75, .pointer (some ⟨b8, 4, none⟩))] (by kernel_rfl) ?_
      refine GI_cell 3 (.tmp 75) 4 (nt ((q8).state)) (some 76) (by kernel_rfl) (by kernel_rfl) (by kernel_rfl) qhm203 (fun f => f) (m := 1) (by kernel_rfl) rfl ?_
      refine GI_call { callee := (Callee.value (Operand.func 65)), args := #[(Operand.tmp 72), (Operand.tmp 76)], argTypes := #[23, 3] } 65 #[.agg (Vt.cells ((GV.getC who ref s.cs).getD Vt.zero)).toArray, nt ((q8).state)] (some 77) (by kernel_rfl) (by kernel_rfl) (by kernel_rfl) (by kernel_rfl) (won_spec ((GV.getC who ref s.cs).getD Vt.zero) ((q8).state) _) ?_
      rintro _ w246 ⟨rfl, hk247⟩
      have K248 := K243.tr (Keep.ofNone hk247)
      refine ⟨_, rfl, K248, ?_⟩
      have hzK248 := Keep.size K248
      have hsz249 := Keep.size hk247
      replace hb179_184 := hb179_184.keep hk247 (fun f => f)
      replace hm201 := hm201.keep hk247 (fun f => f)
      replace hm203 := hm203.keep hk247 (fun f => f)
      replace hm209 := hm209.keep hk247 (fun f => f)
      replace hm205 := hm205.keep hk247 (fun f => f)
      replace hK0 := Keep.tr hK0 (Keep.ofNone hk247)
      replace ho195 := Vot.keep ho195 hk247 (fun _ _ f => f)
      refine GI_static [] [(3, nt now), (9, pt b8), (10, pt q149), (11, pt b179), (71, .bool (wonV ((GV.getC who ref s.cs).getD Vt.zero) ((q8).state)))] (by kernel_rfl) ?_
      refine GI_end ?_
      refine X_then ?_
      refine V_ifb (wonV ((GV.getC who ref s.cs).getD Vt.zero) ((q8).state)) (by kernel_rfl) (fun hc250 => ?_) (fun hc250 => ?_)
      ·
       refine V_draws (acts [7, 12]) none_ [[5, 6, 7, 0, 1, 2, 3, 4, 8, 9, 10, 11, 12]] (by kernel_rfl) (by repeat first | exact sure_body (by rintro _ _ ⟨h, _⟩; exact ⟨_, h⟩) | refine sure_then ?_ | refine sure_block ?_ | refine sure_join ?_) (by kernel_rfl) ?_
       intro w252 hk251 he253 L hL254
       have hsz255 := Keep.size hk251
       replace hb179_184 := hb179_184.keep hk251 (fun f => f)
       replace hm201 := hm201.keep hk251 (fun f => f)
       replace hm203 := hm203.keep hk251 (fun f => f)
       replace hm209 := hm209.keep hk251 (fun f => f)
       replace hm205 := hm205.keep hk251 (fun f => f)
       replace hK0 := Keep.tr hK0 (Keep.ofNone hk251)
       replace ho195 := Vot.keep ho195 hk251 (fun _ _ f => f)
       have qhb179_184 := hb179_184
       have qhm201 := hm201
       have qhm203 := hm203
       have qhm209 := hm209
       have qhm205 := hm205
       have K256 : Keep none_ w252 w252 := Keep.refl _ _
       obtain rfl := List.mem_singleton.1 hL254
       refine GI_static [6, 7, 0, 1, 2, 3, 4, 8, 9, 10, 11, 12] [(3, nt now), (9, pt b8), (10, pt q149), (11, pt b179), (83, .pointer (some ⟨b179, 2, none⟩))] (by kernel_rfl) ?_
       refine GI_cell 3 (.tmp 83) 2 (nt (((GV.getC who ref s.cs).getD Vt.zero).level)) (some 84) (by kernel_rfl) (by kernel_rfl) (by kernel_rfl) qhb179_184 (fun f => f) (m := 1) (by kernel_rfl) rfl ?_
       refine GI_call { callee := (Callee.value (Operand.func 63)), args := #[(Operand.tmp 84), (Operand.const (Value.int IntKind.i64 8))], argTypes := #[3, 3] } 63 #[nt (((GV.getC who ref s.cs).getD Vt.zero).level), nt 8] (some 85) (by kernel_rfl) (by kernel_rfl) (by kernel_rfl) (by kernel_rfl) (cvPeriod_spec (((GV.getC who ref s.cs).getD Vt.zero).level) 8 _ (lev_ok hinv (show (GV.getC who ref s.cs).isSome = true from by simpa using hc186) hc250)) ?_
       rintro _ w252 ⟨rfl, rfl⟩
       refine ⟨_, rfl, K256, ?_⟩
       refine GI_static [4, 8, 9, 10, 11, 12] [(3, nt now), (11, pt b179), (78, pt q149), (81, .pointer (some ⟨b8, 5, none⟩)), (85, nt (cvPeriod (((GV.getC who ref s.cs).getD Vt.zero).level) 8))] (by kernel_rfl) ?_
       refine GI_cell 3 (.tmp 81) 5 (nt ((q8).stop)) (some 82) (by kernel_rfl) (by kernel_rfl) (by kernel_rfl) qhm203 (fun f => f) (m := 1) (by kernel_rfl) rfl ?_
       refine GI_static [10, 11, 12] [(3, nt now), (78, pt q149), (86, nt (IntKind.i64.wrap (((q8).stop) + (cvPeriod (((GV.getC who ref s.cs).getD Vt.zero).level) 8)))), (87, .pointer (some ⟨b179, 3, none⟩))] (by kernel_rfl) ?_
       refine GI_cell 3 (.tmp 87) 3 (nt (((GV.getC who ref s.cs).getD Vt.zero).a)) (some 88) (by kernel_rfl) (by kernel_rfl) (by kernel_rfl) qhb179_184 (fun f => f) (m := 1) (by kernel_rfl) rfl ?_
       refine GI_static [12] [(78, pt q149), (86, nt (IntKind.i64.wrap (((q8).stop) + (cvPeriod (((GV.getC who ref s.cs).getD Vt.zero).level) 8)))), (88, nt (((GV.getC who ref s.cs).getD Vt.zero).a)), (89, nt now)] (by kernel_rfl) ?_
       refine GI_final 12 (by kernel_rfl) (by kernel_rfl) ?_
       refine OI_call { callee := (Callee.value (Operand.func 62)), args := #[(Operand.tmp 78), (Operand.tmp 86), (Operand.tmp 88), (Operand.tmp 89)], argTypes := #[95, 3, 3, 3] } 62 #[pt q149, nt (IntKind.i64.wrap (((q8).stop) + (cvPeriod (((GV.getC who ref s.cs).getD Vt.zero).level) 8))), nt (((GV.getC who ref s.cs).getD Vt.zero).a), nt now] (some 90) (by kernel_rfl) (by kernel_rfl) (by kernel_rfl) (joins_spec q149 (some ⟨bd207, 0, none⟩) (s.rc who ((q8).track)) (IntKind.i64.wrap (((q8).stop) + (cvPeriod (((GV.getC who ref s.cs).getD Vt.zero).level) 8))) (((GV.getC who ref s.cs).getD Vt.zero).a) now _ hm205) ?_
       rintro _ w264 ⟨rfl, hn266, hk265⟩
       refine ⟨_, rfl, ?_⟩
       have hsz267 := Keep.size hk265
       replace hb179_184 := hb179_184.keep hk265 (by show ¬ (b179 = q149); omega)
       replace hm201 := hm201.keep hk265 (by show ¬ (v = q149); omega)
       replace hm209 := hm209.keep hk265 (by show ¬ (bd207 = q149); omega)
       replace hK0 := Keep.fresh hK0 hk265 (fun i hi hs => by have hs : F194 i := (by rw [show i = q149 from hs]; exact hF206); rcases rel200 i hs with h | h; exact h; (exfalso; omega))
       have ho268 := Vot.setRec (a := who) (t := ((q8).track)) (r' := (joinR (s.rc who ((q8).track)) (IntKind.i64.wrap (((q8).stop) + (cvPeriod (((GV.getC who ref s.cs).getD Vt.zero).level) 8))) (((GV.getC who ref s.cs).getD Vt.zero).a) now)) (dp := (some ⟨bd207, 0, none⟩)) (dp' := (some ⟨bd207, 0, none⟩)) ho195 hgc154 hm205 hk265 (show Blk _ _ (RecS.cells (some ⟨bd207, 0, none⟩) (joinR (s.rc who ((q8).track)) (IntKind.i64.wrap (((q8).stop) + (cvPeriod (((GV.getC who ref s.cs).getD Vt.zero).level) 8))) (((GV.getC who ref s.cs).getD Vt.zero).a) now)) _ from hn266) (.inl ⟨rfl, by first | rfl | exact joinR_d _ _ _ _ | (rw [show ({ s with cs := GV.delC who ref s.cs }).rc who ((q8).track) = (s.rc who ((q8).track)) from rfl]) | (rw [show ({ s with cs := GV.delC who ref s.cs }).rc who ((q8).track) = (s.rc who ((q8).track)) from rfl]; exact joinR_d _ _ _ _)⟩)
       obtain ⟨r269, hr269⟩ : ∃ r9 : RecS, r9 = (joinR (s.rc who ((q8).track)) (IntKind.i64.wrap (((q8).stop) + (cvPeriod (((GV.getC who ref s.cs).getD Vt.zero).level) 8))) (((GV.getC who ref s.cs).getD Vt.zero).a) now) := ⟨_, rfl⟩
       replace hn266 : Blk w264 q149 (RecS.cells (some ⟨bd207, 0, none⟩) r269) 99 := by rw [hr269]; exact hn266
       have hq149lt := hn266.lt
       refine OI_end rfl ?_
       refine X_block ?_
       refine X_then ?_
       refine V_seq ?_
       refine V_region ?_
       refine OI_static 1 [(8, nt 0)] (by kernel_rfl) ?_
       refine OI_end rfl ?_
       refine X_then ?_
       refine V_ret ?_
       have hE270 : unvE s who ref = 0 := by unfold unvE; rw [if_neg (fun h9 => h9 hc6)]; rw [hpa8]; dsimp only; rw [if_pos (show (GV.getC who ref s.cs).isSome = true from by simpa using hc186)]
       exact X_return (nt 0) rfl ⟨by rw [hE270], ⟨F194, ⟨_, by rw [show unvS s who ref now = (({ s with cs := GV.delC who ref s.cs }).setR who ((q8).track) (joinR (s.rc who ((q8).track)) (IntKind.i64.wrap (((q8).stop) + (cvPeriod (((GV.getC who ref s.cs).getD Vt.zero).level) 8))) (((GV.getC who ref s.cs).getD Vt.zero).a) now)) from by unfold unvS; rw [hE270, if_pos rfl, hpa8]; dsimp only; rw [if_neg hc210]; rw [if_pos hc250]]; exact ho268⟩, rel200⟩, hK0⟩
      ·
       refine V_skip ?_
       refine X_block ?_
       refine X_then ?_
       refine V_seq ?_
       refine V_region ?_
       refine OI_static 1 [(8, nt 0)] (by kernel_rfl) ?_
       refine OI_end rfl ?_
       refine X_then ?_
       refine V_ret ?_
       have hE271 : unvE s who ref = 0 := by unfold unvE; rw [if_neg (fun h9 => h9 hc6)]; rw [hpa8]; dsimp only; rw [if_pos (show (GV.getC who ref s.cs).isSome = true from by simpa using hc186)]
       exact X_return (nt 0) rfl ⟨by rw [hE271], ⟨F194, ⟨_, by rw [show unvS s who ref now = ({ s with cs := GV.delC who ref s.cs }) from by unfold unvS; rw [hE271, if_pos rfl, hpa8]; dsimp only; rw [if_neg hc210]; rw [if_neg (by rw [hc250]; decide)]]; exact ho195⟩, rel200⟩, hK0⟩
end Go.Al

