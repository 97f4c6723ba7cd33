/-
  Put together out of 14 texts: Walks of package voting: Delegate. Walks of package voting: New; the voting with its tracks. Walks of the laws of voting: the document's answer to chapter 5. Walks of the laws of voting: all votes. Walks of the laws of voting: a beginning. The laws of voting: locks; what succeeds. Walks of the laws of voting: what is lent counts. The laws of voting: a vote that is cast anew. The laws of voting: more of what is delegated. The laws of voting: a vote that is taken away. The laws of voting: what is lent on. Walks of package voting: Undelegate. Package voting: Undelegate. Walks of the laws of voting: what is lent on.
-/
import Derived.Test.YtglgnmoglbbkmaaGreatVotingChainB4
namespace Go.Al
open Go Go.RowKit Go.Proofs
set_option maxRecDepth 10000 in
set_option maxHeartbeats 1000000 in
theorem delegate_at (F G : Nat → Prop) (v l : Nat) (P : VP) (s : VS) (xs : List Acc) (cs : List Ci) (who t to level n : Int) (w : World) (h : Vot F w v P s) (hl : Led G w l xs cs) (hdis : ∀ q, F q → ¬ G q) (hmax : cs.length < 100000) : Calls Tryz.prog 17 #[.pointer (some ⟨v, 0, none⟩), .pointer (some ⟨l, 0, none⟩), .int .i64 who, .int .i64 t, .int .i64 to, .int .i64 level, .int .i64 n] w fun e w' => e = .returned (.int .i64 (delE xs s who t to level n)) ∧ (∃ F' G', VotE F' w' v (delS xs s who t to level n) ∧ Led G' w' l xs (delC2 xs cs s who t to level n) ∧ (∀ q, F' q → F q ∨ w.heap.size ≤ q) ∧ (∀ q, G' q → G q ∨ w.heap.size ≤ q) ∧ (∀ q, F' q → ¬ G' q)) ∧ Keep (fun q => F q ∨ G q) w w' := by
 have hFlt := Vot.lt h
 have hvlt := hFlt _ (Vot.at_ h)
 have hFo : ∀ q, F q → 0 ≤ q := fun q _ => Nat.zero_le q
 have hFr : ∀ q, F q → F q ∨ w.heap.size ≤ q := fun _ h => .inl h
 have hGlt := Led.lt hl
 have hllt := hGlt _ (Led.at_ hl)
 have hGo : ∀ q, G q → 0 ≤ q := fun q _ => Nat.zero_le q
 have hGr : ∀ q, G q → G q ∨ w.heap.size ≤ q := fun _ h => .inl h
 have hK0 : Keep (fun q => F q ∨ G q) w w := Keep.refl _ _
 have hzhK0 := Keep.size hK0
 refine enterV Tryz.func17 rfl [pt v, pt l, nt who, nt t, nt to, nt level, nt n] 96 rfl rfl rfl ?_
 refine V_pick [(0, pt v), (1, pt l), (2, nt who), (3, nt t), (4, nt to), (5, nt level), (6, nt n)] rfl ?_
 refine V_seq ?_
 refine V_region ?_
 refine OI_static 1 [(0, pt v), (1, pt l), (2, nt who), (3, nt t), (4, nt to), (5, nt level), (6, nt n)] (by kernel_rfl) ?_
 refine OI_end rfl ?_
 refine X_then ?_
 refine V_seq ?_
 refine V_seq ?_
 refine V_region ?_
 refine OI_static 8 [(0, pt v), (1, pt l), (2, nt who), (3, nt t), (4, nt to), (5, nt level), (6, nt n), (22, .bool false), (23, nt who)] (by kernel_rfl) ?_
 refine OI_call { callee := (Callee.value (Operand.func 47)), args := #[(Operand.tmp 23)], argTypes := #[3] } 47 #[nt who] (some 24) (by kernel_rfl) (by kernel_rfl) (by kernel_rfl) (isAcc_spec who _) ?_
 rintro _ w ⟨rfl, rfl⟩
 refine ⟨_, rfl, ?_⟩
 refine OI_static 12 [(0, pt v), (1, pt l), (2, nt who), (3, nt t), (4, nt to), (5, nt level), (6, nt n), (27, .bool (!(decide (0 ≤ who ∧ who ≤ 9))))] (by kernel_rfl) ?_
 by_cases hg6 : 0 ≤ who ∧ who ≤ 9
 ·
  refine OI_eq [(0, pt v), (1, pt l), (2, nt who), (3, nt t), (4, nt to), (5, nt level), (6, nt n), (27, .bool false)] (by first | simp [hg6] | rfl) ?_
  refine OI_static 13 [(0, pt v), (1, pt l), (2, nt who), (3, nt t), (4, nt to), (5, nt level), (6, nt n), (27, .bool false), (28, nt to)] (by kernel_rfl) ?_
  refine OI_call { callee := (Callee.value (Operand.func 47)), args := #[(Operand.tmp 28)], argTypes := #[3] } 47 #[nt to] (some 29) (by kernel_rfl) (by kernel_rfl) (by kernel_rfl) (isAcc_spec to _) ?_
  rintro _ w ⟨rfl, rfl⟩
  refine ⟨_, rfl, ?_⟩
  refine OI_static 17 [(0, pt v), (1, pt l), (2, nt who), (3, nt t), (4, nt to), (5, nt level), (6, nt n), (32, .bool (!(decide (0 ≤ to ∧ to ≤ 9))))] (by kernel_rfl) ?_
  by_cases hg12 : 0 ≤ to ∧ to ≤ 9
  ·
   refine OI_eq [(0, pt v), (1, pt l), (2, nt who), (3, nt t), (4, nt to), (5, nt level), (6, nt n), (32, .bool false)] (by first | simp [hg12] | rfl) ?_
   refine OI_static 18 [(0, pt v), (1, pt l), (2, nt who), (3, nt t), (4, nt to), (5, nt level), (6, nt n), (32, .bool false), (33, nt t)] (by kernel_rfl) ?_
   refine OI_call { callee := (Callee.value (Operand.func 45)), args := #[(Operand.tmp 33)], argTypes := #[3] } 45 #[nt t] (some 34) (by kernel_rfl) (by kernel_rfl) (by kernel_rfl) (isTrk_spec t _) ?_
   rintro _ w ⟨rfl, rfl⟩
   refine ⟨_, rfl, ?_⟩
   refine OI_static 22 [(0, pt v), (1, pt l), (2, nt who), (3, nt t), (4, nt to), (5, nt level), (6, nt n), (37, .bool (!(decide (0 ≤ t ∧ t ≤ 3))))] (by kernel_rfl) ?_
   by_cases hg18 : 0 ≤ t ∧ t ≤ 3
   ·
    refine OI_eq [(0, pt v), (1, pt l), (2, nt who), (3, nt t), (4, nt to), (5, nt level), (6, nt n), (37, .bool false)] (by first | simp [hg18] | rfl) ?_
    refine OI_static 23 [(0, pt v), (1, pt l), (2, nt who), (3, nt t), (4, nt to), (5, nt level), (6, nt n), (37, .bool false), (38, nt level)] (by kernel_rfl) ?_
    refine OI_call { callee := (Callee.value (Operand.func 44)), args := #[(Operand.tmp 38), (Operand.const (Value.int IntKind.i64 0)), (Operand.const (Value.int IntKind.i64 6))], argTypes := #[3, 3, 3] } 44 #[nt level, nt 0, nt 6] (some 39) (by kernel_rfl) (by kernel_rfl) (by kernel_rfl) (vIn_spec level 0 6 _) ?_
    rintro _ w ⟨rfl, rfl⟩
    refine ⟨_, rfl, ?_⟩
    refine OI_static 27 [(0, pt v), (1, pt l), (2, nt who), (3, nt t), (4, nt to), (5, nt level), (6, nt n), (42, .bool (!(decide ((0 : Int) ≤ level ∧ level ≤ 6))))] (by kernel_rfl) ?_
    by_cases hg24 : (0 : Int) ≤ level ∧ level ≤ 6
    ·
     refine OI_eq [(0, pt v), (1, pt l), (2, nt who), (3, nt t), (4, nt to), (5, nt level), (6, nt n), (42, .bool false)] (by first | simp [hg24] | rfl) ?_
     refine OI_static 28 [(0, pt v), (1, pt l), (2, nt who), (3, nt t), (4, nt to), (5, nt level), (6, nt n), (42, .bool false), (43, nt n)] (by kernel_rfl) ?_
     refine OI_call { callee := (Callee.value (Operand.func 44)), args := #[(Operand.tmp 43), (Operand.const (Value.int IntKind.i64 0)), (Operand.const (Value.int IntKind.i64 1073741824))], argTypes := #[3, 3, 3] } 44 #[nt n, nt 0, nt 1073741824] (some 44) (by kernel_rfl) (by kernel_rfl) (by kernel_rfl) (vIn_spec n 0 1073741824 _) ?_
     rintro _ w ⟨rfl, rfl⟩
     refine ⟨_, rfl, ?_⟩
     refine OI_static 32 [(0, pt v), (1, pt l), (2, nt who), (3, nt t), (4, nt to), (5, nt level), (6, nt n), (47, .bool (!(decide ((0 : Int) ≤ n ∧ n ≤ 1073741824))))] (by kernel_rfl) ?_
     by_cases hg30 : (0 : Int) ≤ n ∧ n ≤ 1073741824
     ·
      refine OI_eq [(0, pt v), (1, pt l), (2, nt who), (3, nt t), (4, nt to), (5, nt level), (6, nt n), (47, .bool false)] (by first | simp [hg30] | rfl) ?_
      refine OI_static 36 [(0, pt v), (1, pt l), (2, nt who), (3, nt t), (4, nt to), (5, nt level), (6, nt n), (51, .bool (decide (who = to)))] (by kernel_rfl) ?_
      refine OI_end rfl ?_
      refine X_then ?_
      refine V_if (who = to) (by kernel_rfl) (fun hc31 => ?_) (fun hc31 => ?_)
      ·
       refine V_seq ?_
       refine V_region ?_
       refine OI_static 1 [(14, nt 1)] (by kernel_rfl) ?_
       refine OI_end rfl ?_
       refine X_then ?_
       refine V_ret ?_
       refine X_ret_then ?_
       have hE32 : delE xs s who t to level n = 1 := by unfold delE; rw [if_pos (.inr (.inr (.inr (.inr (.inr ((fun h9 => h9 hc31)))))))]
       exact X_return (nt 1) rfl ⟨by rw [hE32], ⟨F, G, ⟨_, by rw [show delS xs s who t to level n = s from by unfold delS; rw [hE32, if_neg (by decide)]]; exact h⟩, by rw [show delC2 xs cs s who t to level n = cs from by unfold delC2; rw [hE32, if_neg (by decide)]]; exact hl, hFr, hGr, hdis⟩, hK0⟩
      ·
       refine V_skip ?_
       refine X_then ?_
       refine V_seq ?_
       refine V_region ?_
       refine OI_static 3 [(0, pt v), (1, pt l), (2, nt who), (3, nt t), (4, nt to), (5, nt level), (6, nt n), (52, pt v), (53, nt who), (54, nt t)] (by kernel_rfl) ?_
       rcases hd33 : (s.rc who t).d with _ | d34
       ·
        refine OI_call { callee := (Callee.value (Operand.func 48)), args := #[(Operand.tmp 52), (Operand.tmp 53), (Operand.tmp 54)], argTypes := #[31, 3, 3] } 48 #[pt v, nt who, nt t] (some 55) (by kernel_rfl) (by kernel_rfl) (by kernel_rfl) (record_spec F v P s who t _ h (by omega) (by omega)) ?_
        rintro _ w49 ⟨q39, P40, rfl, hgc44, hpp45, hgv46, hmn47, hdl48, ⟨F41, ho42, hfr43⟩, hk50⟩
        refine ⟨_, rfl, ?_⟩
        have hsz51 := Keep.size hk50
        replace hl := Led.keep hl hk50 (fun q hq hs => hdis q hs hq)
        replace hK0 := Keep.fresh hK0 hk50 (fun i hi hs => by rcases hFr i hs with h | h; exact .inl h; (exfalso; omega))
        have own53 : ∀ q, F41 q → 0 ≤ q := fun q hq => by rcases hfr43 q hq with h | h; (have h1 := hFo q h; have h2 := hFlt q h; omega); omega
        have lt52 := Vot.lt ho42
        have rel54 : ∀ q, F41 q → F q ∨ w.heap.size ≤ q := fun q hq => by rcases hfr43 q hq with h | h; exact hFr q h; exact .inr (by omega)
        have dis55 : ∀ q, F41 q → ¬ G q := fun q h1 h2 => by rcases hfr43 q h1 with h | h; exact hdis q h h2; (have h4 := hGlt q h2; omega)
        have hgq39lt := lt52 _ (Vot.at_ ho42)
        obtain ⟨hF57, hm56⟩ := Vot.recN ho42 hgc44 hd33
        have hq39lt := hm56.lt
        have hloq39 := lt52 _ hF57
        have hoq39 := own53 _ hF57
        refine OI_static 5 [(0, pt v), (1, pt l), (2, nt who), (3, nt t), (4, nt to), (5, nt level), (6, nt n), (15, pt q39)] (by kernel_rfl) ?_
        refine OI_end rfl ?_
        refine X_then ?_
        refine V_seq ?_
        refine V_block ?_
        refine V_seq ?_
        refine V_region ?_
        refine OI_static 3 [(0, pt v), (1, pt l), (2, nt who), (3, nt t), (4, nt to), (5, nt level), (6, nt n), (15, pt q39), (59, pt q39)] (by kernel_rfl) ?_
        refine OI_cell 97 (.tmp 59) 0 (.pointer none) (some 60) (by kernel_rfl) (by kernel_rfl) hm56 (m := 1) (by kernel_rfl) rfl ?_
        refine OI_static 6 [(0, pt v), (1, pt l), (2, nt who), (3, nt t), (4, nt to), (5, nt level), (6, nt n), (15, pt q39), (56, .bool false)] (by kernel_rfl) ?_
        refine OI_end rfl ?_
        refine X_then ?_
        refine V_false rfl ?_
        refine V_seq ?_
        refine V_region ?_
        refine OI_static 3 [(0, pt v), (1, pt l), (2, nt who), (3, nt t), (4, nt to), (5, nt level), (6, nt n), (15, pt q39), (63, pt v), (64, nt who), (65, nt t)] (by kernel_rfl) ?_
        refine OI_call { callee := (Callee.value (Operand.func 49)), args := #[(Operand.tmp 63), (Operand.tmp 64), (Operand.tmp 65)], argTypes := #[31, 3, 3] } 49 #[pt v, nt who, nt t] (some 66) (by kernel_rfl) (by kernel_rfl) (by kernel_rfl) (count_spec F41 v P40 s who t _ ho42) ?_
        rintro _ w60 ⟨rfl, hk61⟩
        refine ⟨_, rfl, ?_⟩
        have hsz62 := Keep.size hk61
        replace hm56 := hm56.keep hk61 (fun f => f)
        replace hl := Led.keep hl hk61 (fun _ _ f => f)
        replace hK0 := Keep.tr hK0 (Keep.ofNone hk61)
        replace ho42 := Vot.keep ho42 hk61 (fun _ _ f => f)
        refine OI_static 6 [(0, pt v), (1, pt l), (2, nt who), (3, nt t), (4, nt to), (5, nt level), (6, nt n), (15, pt q39), (62, .bool (decide ((((vrow s who t).length : Nat) : Int) > 0)))] (by kernel_rfl) ?_
        refine OI_end rfl ?_
        refine X_then ?_
        refine V_if ((((vrow s who t).length : Nat) : Int) > 0) (by kernel_rfl) (fun hc63 => ?_) (fun hc63 => ?_)
        ·
         refine V_seq ?_
         refine V_region ?_
         refine OI_static 1 [(14, nt 9)] (by kernel_rfl) ?_
         refine OI_end rfl ?_
         refine X_then ?_
         refine V_ret ?_
         refine X_ret_block ?_
         refine X_ret_then ?_
         have hE64 : delE xs s who t to level n = 9 := by unfold delE; rw [if_neg (by rintro (h9 | h9 | h9 | h9 | h9 | h9); exact h9 hg6; exact h9 hg12; exact h9 hg18; exact h9 hg24; exact h9 hg30; exact h9 hc31)]; rw [if_neg (by rw [hd33]; decide)]; rw [if_pos hc63]
         exact X_return (nt 9) rfl ⟨by rw [hE64], ⟨F41, G, ⟨_, by rw [show delS xs s who t to level n = s from by unfold delS; rw [hE64, if_neg (by decide)]]; exact ho42⟩, by rw [show delC2 xs cs s who t to level n = cs from by unfold delC2; rw [hE64, if_neg (by decide)]]; exact hl, rel54, hGr, dis55⟩, hK0⟩
        ·
         refine V_seq ?_
         refine V_region ?_
         refine OI_static 3 [(0, pt v), (1, pt l), (2, nt who), (3, nt t), (4, nt to), (5, nt level), (6, nt n), (15, pt q39), (69, nt n), (70, pt l), (71, nt who)] (by kernel_rfl) ?_
         refine OI_call { callee := (Callee.value (Operand.func 38)), args := #[(Operand.tmp 70), (Operand.tmp 71)], argTypes := #[30, 3] } 38 #[pt l, nt who] (some 72) (by kernel_rfl) (by kernel_rfl) (by kernel_rfl) (free_spec G l xs cs who _ hl) ?_
         rintro _ w65 ⟨rfl, hk66⟩
         refine ⟨_, rfl, ?_⟩
         have hsz67 := Keep.size hk66
         replace hm56 := hm56.keep hk66 (fun f => f)
         replace hl := Led.keep hl hk66 (fun _ _ f => f)
         replace hK0 := Keep.tr hK0 (Keep.ofNone hk66)
         replace ho42 := Vot.keep ho42 hk66 (fun _ _ f => f)
         refine OI_static 6 [(0, pt v), (1, pt l), (2, nt who), (3, nt t), (4, nt to), (5, nt level), (6, nt n), (15, pt q39), (68, .bool (decide (n > (acct xs who).free)))] (by kernel_rfl) ?_
         refine OI_end rfl ?_
         refine X_then ?_
         refine V_if (n > (acct xs who).free) (by kernel_rfl) (fun hc68 => ?_) (fun hc68 => ?_)
         ·
          refine V_seq ?_
          refine V_region ?_
          refine OI_static 1 [(14, nt 6)] (by kernel_rfl) ?_
          refine OI_end rfl ?_
          refine X_then ?_
          refine V_ret ?_
          refine X_ret_block ?_
          refine X_ret_then ?_
          have hE69 : delE xs s who t to level n = 6 := by unfold delE; rw [if_neg (by rintro (h9 | h9 | h9 | h9 | h9 | h9); exact h9 hg6; exact h9 hg12; exact h9 hg18; exact h9 hg24; exact h9 hg30; exact h9 hc31)]; rw [if_neg (by rw [hd33]; decide)]; rw [if_neg hc63]; rw [if_pos hc68]
          exact X_return (nt 6) rfl ⟨by rw [hE69], ⟨F41, G, ⟨_, by rw [show delS xs s who t to level n = s from by unfold delS; rw [hE69, if_neg (by decide)]]; exact ho42⟩, by rw [show delC2 xs cs s who t to level n = cs from by unfold delC2; rw [hE69, if_neg (by decide)]]; exact hl, rel54, hGr, dis55⟩, hK0⟩
         ·
          refine V_skip ?_
          refine X_block ?_
          refine X_then ?_
          refine V_seq ?_
          refine V_region ?_
          refine OI_static 5 [(0, pt v), (1, pt l), (2, nt who), (3, nt t), (4, nt to), (5, nt level), (6, nt n), (74, pt q39), (78, .agg #[nt to, nt level, nt n])] (by kernel_rfl) ?_
          refine OI_box 101 (.tmp 78) (.agg #[nt to, nt level, nt n]) [nt to, nt level, nt n] (some 79) (by kernel_rfl) (by kernel_rfl) (by kernel_rfl) ?_
          intro b70 w70 e70 hb70 k70 z70
          have hsz71 := Keep.size k70
          replace hm56 := hm56.keep k70 (fun f => f)
          replace hl := Led.keep hl k70 (fun _ _ f => f)
          replace hK0 := Keep.tr hK0 (Keep.ofNone k70)
          replace ho42 := Vot.keep ho42 k70 (fun _ _ f => f)
          have hb70lt := hb70.lt
          refine OI_static 8 [(0, pt v), (1, pt l), (2, nt who), (3, nt t), (4, nt to), (5, nt level), (6, nt n), (79, pt b70), (81, pt q39)] (by kernel_rfl) ?_
          have hF076 : ¬ F41 b70 := fun hh => by have h9 := lt52 _ hh; omega
          refine OI_set (m := 1) (kd := false) 97 (.tmp 81) (.tmp 79) 0 (pt b70) [pt b70] none (by kernel_rfl) (by kernel_rfl) (by kernel_rfl) hm56 (by kernel_rfl) (by kernel_rfl) (by kernel_rfl) (Nat.le_of_ble_eq_true (by kernel_rfl)) (by simp [Value.oneCell']) ?_
          intro w72 hn75 hk73 hz74
          replace hn75 : Blk w72 q39 [pt b70, nt (((s.rc who t)).got.v), nt (((s.rc who t)).got.c), nt (((s.rc who t)).till), nt (((s.rc who t)).n)] 99 := hn75
          have hsz77 := Keep.size hk73
          replace hl := Led.keep hl hk73 (fun q hq hs => (fun q h1 h2 => dis55 q h2 h1) q hq (by rw [show q = q39 from hs]; exact hF57))
          replace hK0 := Keep.fresh hK0 hk73 (fun i hi hs => by have hs : F41 i := (by rw [show i = q39 from hs]; exact hF57); rcases rel54 i hs with h | h; exact .inl h; (exfalso; omega))
          obtain ⟨F79, ho78, hfd80⟩ := Vot.setDelE (a := who) (t := t) (r' := { (s.rc who t) with d := some (DelS.mk to level n) }) (d := (DelS.mk to level n)) ho42 hgc44 hm56 hb70 hF076 hk73 (show Blk _ _ (RecS.cells (some ⟨b70, 0, none⟩) { (s.rc who t) with d := some (DelS.mk to level n) }) _ from hn75) rfl (by intro d hd; simp only [Option.some.injEq] at hd; subst hd; simp only []; omega)
          have hfr81 : ∀ q, F79 q → F41 q ∨ w65.heap.size ≤ q := fun q hq => (hfd80 q hq).imp id (fun h => by omega)
          have own83 : ∀ q, F79 q → 0 ≤ q := fun q hq => by rcases hfr81 q hq with h | h; (have h1 := own53 q h; have h2 := lt52 q h; omega); omega
          have lt82 := Vot.lt ho78
          have rel84 : ∀ q, F79 q → F q ∨ w.heap.size ≤ q := fun q hq => by rcases hfr81 q hq with h | h; exact rel54 q h; exact .inr (by omega)
          have dis85 : ∀ q, F79 q → ¬ G q := fun q h1 h2 => by rcases hfr81 q h1 with h | h; exact dis55 q h h2; (have h4 := hGlt q h2; omega)
          obtain ⟨bd88, hF87, hF89, hm86, hm90⟩ := Vot.recD ho78 hgc44 (by rw [show (s.setR who t { (s.rc who t) with d := some (DelS.mk to level n) }).rc who t = { (s.rc who t) with d := some (DelS.mk to level n) } from (updR_self _ _ _ _)]; first | done | exact rfl)
          have hbd88lt := hm90.lt
          have hlobd88 := lt82 _ hF89
          have hobd88 := own83 _ hF89
          rw [show (s.setR who t { (s.rc who t) with d := some (DelS.mk to level n) }).rc who t = { (s.rc who t) with d := some (DelS.mk to level n) } from (updR_self _ _ _ _)] at hm86
          have hq39lt := hm86.lt
          have hloq39 := lt82 _ hF87
          have hoq39 := own83 _ hF87
          have hnebd88q39 : bd88 ≠ q39 := Blk.ne hm90 hm86 (by decide)
          refine OI_end rfl ?_
          refine X_then ?_
          refine V_seq ?_
          refine V_region ?_
          refine OI_static 5 [(1, pt l), (2, nt who), (3, nt t), (6, nt n), (82, pt v), (83, nt to), (84, nt t), (85, nt n), (86, nt level)] (by kernel_rfl) ?_
          refine OI_call { callee := (Callee.value (Operand.func 51)), args := #[(Operand.tmp 85), (Operand.tmp 86)], argTypes := #[3, 3] } 51 #[nt n, nt level] (some 87) (by kernel_rfl) (by kernel_rfl) (by kernel_rfl) (cvVotes_spec n level _) ?_
          rintro _ w72 ⟨rfl, rfl⟩
          refine ⟨_, rfl, ?_⟩
          refine OI_static 8 [(1, pt l), (2, nt who), (3, nt t), (6, nt n), (82, pt v), (83, nt to), (84, nt t), (89, .agg #[nt (cvVotes n level), nt n])] (by kernel_rfl) ?_
          refine OI_call { callee := (Callee.value (Operand.func 50)), args := #[(Operand.tmp 82), (Operand.tmp 83), (Operand.tmp 84), (Operand.tmp 89)], argTypes := #[31, 3, 3, 54] } 50 #[pt v, nt to, nt t, .agg #[nt (cvVotes n level), nt n]] (some 90) (by kernel_rfl) (by kernel_rfl) (by kernel_rfl) (gets_spec F79 v P40 (s.setR who t { (s.rc who t) with d := some (DelS.mk to level n) }) to t (Wgt.mk (cvVotes n level) n) _ ho78 (by omega) (by omega)) ?_
          rintro _ w98 ⟨rfl, P100, hpp104, hgv105, hmn106, hdl107, ⟨F101, ho102, hfr103⟩, hk99⟩
          refine ⟨_, rfl, ?_⟩
          have hsz108 := Keep.size hk99
          replace hl := Led.keep hl hk99 (fun q hq hs => dis85 q hs hq)
          replace hK0 := Keep.fresh hK0 hk99 (fun i hi hs => by rcases rel84 i hs with h | h; exact .inl h; (exfalso; omega))
          have own110 : ∀ q, F101 q → 0 ≤ q := fun q hq => by rcases hfr103 q hq with h | h; (have h1 := own83 q h; have h2 := lt82 q h; omega); omega
          have lt109 := Vot.lt ho102
          have rel111 : ∀ q, F101 q → F q ∨ w.heap.size ≤ q := fun q hq => by rcases hfr103 q hq with h | h; exact rel84 q h; exact .inr (by omega)
          have dis112 : ∀ q, F101 q → ¬ G q := fun q h1 h2 => by rcases hfr103 q h1 with h | h; exact dis85 q h h2; (have h4 := hGlt q h2; omega)
          have hqq39w98 := hmn106 _ _ _ hgc44
          refine OI_end rfl ?_
          refine X_then ?_
          refine V_seq ?_
          refine V_region ?_
          refine OI_static 4 [(91, pt l), (92, nt who), (93, nt t), (94, nt n)] (by kernel_rfl) ?_
          refine OI_call { callee := (Callee.value (Operand.func 52)), args := #[(Operand.tmp 91), (Operand.tmp 92), (Operand.tmp 93), (Operand.tmp 94)], argTypes := #[30, 3, 3, 3] } 52 #[pt l, nt who, nt t, nt n] (some 95) (by kernel_rfl) (by kernel_rfl) (by kernel_rfl) (raise_spec G l xs cs who t n _ hl hmax) ?_
          rintro _ w115 ⟨rfl, ⟨F117, ho118, hfr119⟩, hk116⟩
          refine ⟨_, rfl, ?_⟩
          have hsz120 := Keep.size hk116
          replace hK0 := Keep.fresh hK0 hk116 (fun i hi hs => by rcases hGr i hs with h | h; exact .inr h; (exfalso; omega))
          replace ho102 := Vot.keep ho102 hk116 (fun q hq hs => (fun q h1 h2 => dis112 q h2 h1) q hs hq)
          have own122 : ∀ q, F117 q → 0 ≤ q := fun q hq => by rcases hfr119 q hq with h | h; (have h1 := hGo q h; have h2 := hGlt q h; omega); omega
          have lt121 := Led.lt ho118
          have rel123 : ∀ q, F117 q → G q ∨ w.heap.size ≤ q := fun q hq => by rcases hfr119 q hq with h | h; exact hGr q h; exact .inr (by omega)
          have dis124 : ∀ q, F117 q → ¬ F101 q := fun q h1 h2 => by rcases hfr119 q h1 with h | h; exact (fun q h1 h2 => dis112 q h2 h1) q h h2; (have h4 := lt109 q h2; omega)
          refine OI_end rfl ?_
          refine X_then ?_
          refine V_seq ?_
          refine V_region ?_
          refine OI_static 1 [(14, nt 0)] (by kernel_rfl) ?_
          refine OI_end rfl ?_
          refine X_then ?_
          refine V_ret ?_
          have hE125 : delE xs s who t to level n = 0 := by unfold delE; rw [if_neg (by rintro (h9 | h9 | h9 | h9 | h9 | h9); exact h9 hg6; exact h9 hg12; exact h9 hg18; exact h9 hg24; exact h9 hg30; exact h9 hc31)]; rw [if_neg (by rw [hd33]; decide)]; rw [if_neg hc63]; rw [if_neg hc68]
          exact X_return (nt 0) rfl ⟨by rw [hE125], ⟨F101, F117, ⟨_, by rw [show delS xs s who t to level n = (getsS (s.setR who t { (s.rc who t) with d := some (DelS.mk to level n) }) to t (Wgt.mk (cvVotes n level) n)) from by unfold delS; rw [hE125, if_pos rfl]]; exact ho102⟩, by rw [show delC2 xs cs s who t to level n = raiseC cs who t n from by unfold delC2; rw [hE125, if_pos rfl]]; exact ho118, rel111, rel123, (fun q h1 h2 => dis124 q h2 h1)⟩, hK0⟩
       ·
        refine OI_call { callee := (Callee.value (Operand.func 48)), args := #[(Operand.tmp 52), (Operand.tmp 53), (Operand.tmp 54)], argTypes := #[31, 3, 3] } 48 #[pt v, nt who, nt t] (some 55) (by kernel_rfl) (by kernel_rfl) (by kernel_rfl) (record_spec F v P s who t _ h (by omega) (by omega)) ?_
        rintro _ w140 ⟨q130, P131, rfl, hgc135, hpp136, hgv137, hmn138, hdl139, ⟨F132, ho133, hfr134⟩, hk141⟩
        refine ⟨_, rfl, ?_⟩
        have hsz142 := Keep.size hk141
        replace hl := Led.keep hl hk141 (fun q hq hs => hdis q hs hq)
        replace hK0 := Keep.fresh hK0 hk141 (fun i hi hs => by rcases hFr i hs with h | h; exact .inl h; (exfalso; omega))
        have own144 : ∀ q, F132 q → 0 ≤ q := fun q hq => by rcases hfr134 q hq with h | h; (have h1 := hFo q h; have h2 := hFlt q h; omega); omega
        have lt143 := Vot.lt ho133
        have rel145 : ∀ q, F132 q → F q ∨ w.heap.size ≤ q := fun q hq => by rcases hfr134 q hq with h | h; exact hFr q h; exact .inr (by omega)
        have dis146 : ∀ q, F132 q → ¬ G q := fun q h1 h2 => by rcases hfr134 q h1 with h | h; exact hdis q h h2; (have h4 := hGlt q h2; omega)
        have hgq130lt := lt143 _ (Vot.at_ ho133)
        obtain ⟨bd149, hF148, hF150, hm147, hm151⟩ := Vot.recD ho133 hgc135 hd33
        have hbd149lt := hm151.lt
        have hlobd149 := lt143 _ hF150
        have hobd149 := own144 _ hF150
        have hq130lt := hm147.lt
        have hloq130 := lt143 _ hF148
        have hoq130 := own144 _ hF148
        have hnebd149q130 : bd149 ≠ q130 := Blk.ne hm151 hm147 (by decide)
        refine OI_static 5 [(0, pt v), (1, pt l), (2, nt who), (3, nt t), (4, nt to), (5, nt level), (6, nt n), (15, pt q130)] (by kernel_rfl) ?_
        refine OI_end rfl ?_
        refine X_then ?_
        refine V_seq ?_
        refine V_block ?_
        refine V_seq ?_
        refine V_region ?_
        refine OI_static 3 [(0, pt v), (1, pt l), (2, nt who), (3, nt t), (4, nt to), (5, nt level), (6, nt n), (15, pt q130), (59, pt q130)] (by kernel_rfl) ?_
        refine OI_cell 97 (.tmp 59) 0 (pt bd149) (some 60) (by kernel_rfl) (by kernel_rfl) hm147 (m := 1) (by kernel_rfl) rfl ?_
        refine OI_static 6 [(0, pt v), (1, pt l), (2, nt who), (3, nt t), (4, nt to), (5, nt level), (6, nt n), (15, pt q130), (56, .bool true)] (by kernel_rfl) ?_
        refine OI_end rfl ?_
        refine X_then ?_
        refine V_true rfl ?_
        refine V_seq ?_
        refine V_region ?_
        refine OI_static 1 [(14, nt 5)] (by kernel_rfl) ?_
        refine OI_end rfl ?_
        refine X_then ?_
        refine V_ret ?_
        refine X_ret_block ?_
        refine X_ret_then ?_
        have hE152 : delE xs s who t to level n = 5 := by unfold delE; rw [if_neg (by rintro (h9 | h9 | h9 | h9 | h9 | h9); exact h9 hg6; exact h9 hg12; exact h9 hg18; exact h9 hg24; exact h9 hg30; exact h9 hc31)]; rw [if_pos (by rw [hd33]; rfl)]
        exact X_return (nt 5) rfl ⟨by rw [hE152], ⟨F132, G, ⟨_, by rw [show delS xs s who t to level n = s from by unfold delS; rw [hE152, if_neg (by decide)]]; exact ho133⟩, by rw [show delC2 xs cs s who t to level n = cs from by unfold delC2; rw [hE152, if_neg (by decide)]]; exact hl, rel145, hGr, dis146⟩, hK0⟩
     ·
      refine OI_eq [(0, pt v), (1, pt l), (2, nt who), (3, nt t), (4, nt to), (5, nt level), (6, nt n), (47, .bool true)] (by first | simp [hg30] | rfl) ?_
      refine OI_static 36 [(0, pt v), (1, pt l), (2, nt who), (3, nt t), (4, nt to), (5, nt level), (6, nt n), (51, .bool true)] (by kernel_rfl) ?_
      refine OI_end rfl ?_
      refine X_then ?_
      refine V_true rfl ?_
      refine V_seq ?_
      refine V_region ?_
      refine OI_static 1 [(14, nt 1)] (by kernel_rfl) ?_
      refine OI_end rfl ?_
      refine X_then ?_
      refine V_ret ?_
      refine X_ret_then ?_
      have hE153 : delE xs s who t to level n = 1 := by unfold delE; rw [if_pos (.inr (.inr (.inr (.inr (.inl hg30)))))]
      exact X_return (nt 1) rfl ⟨by rw [hE153], ⟨F, G, ⟨_, by rw [show delS xs s who t to level n = s from by unfold delS; rw [hE153, if_neg (by decide)]]; exact h⟩, by rw [show delC2 xs cs s who t to level n = cs from by unfold delC2; rw [hE153, if_neg (by decide)]]; exact hl, hFr, hGr, hdis⟩, hK0⟩
    ·
     refine OI_eq [(0, pt v), (1, pt l), (2, nt who), (3, nt t), (4, nt to), (5, nt level), (6, nt n), (42, .bool true)] (by first | simp [hg24] | rfl) ?_
     refine OI_static 36 [(0, pt v), (1, pt l), (2, nt who), (3, nt t), (4, nt to), (5, nt level), (6, nt n), (51, .bool true)] (by kernel_rfl) ?_
     refine OI_end rfl ?_
     refine X_then ?_
     refine V_true rfl ?_
     refine V_seq ?_
     refine V_region ?_
     refine OI_static 1 [(14, nt 1)] (by kernel_rfl) ?_
     refine OI_end rfl ?_
     refine X_then ?_
     refine V_ret ?_
     refine X_ret_then ?_
     have hE154 : delE xs s who t to level n = 1 := by unfold delE; rw [if_pos (.inr (.inr (.inr (.inl hg24))))]
     exact X_return (nt 1) rfl ⟨by rw [hE154], ⟨F, G, ⟨_, by rw [show delS xs s who t to level n = s from by unfold delS; rw [hE154, if_neg (by decide)]]; exact h⟩, by rw [show delC2 xs cs s who t to level n = cs from by unfold delC2; rw [hE154, if_neg (by decide)]]; exact hl, hFr, hGr, hdis⟩, hK0⟩
   ·
    refine OI_eq [(0, pt v), (1, pt l), (2, nt who), (3, nt t), (4, nt to), (5, nt level), (6, nt n), (37, .bool true)] (by first | simp [hg18] | rfl) ?_
    refine OI_static 36 [(0, pt v), (1, pt l), (2, nt who), (3, nt t), (4, nt to), (5, nt level), (6, nt n), (51, .bool true)] (by kernel_rfl) ?_
    refine OI_end rfl ?_
    refine X_then ?_
    refine V_true rfl ?_
    refine V_seq ?_
    refine V_region ?_
    refine OI_static 1 [(14, nt 1)] (by kernel_rfl) ?_
    refine OI_end rfl ?_
    refine X_then ?_
    refine V_ret ?_
    refine X_ret_then ?_
    have hE155 : delE xs s who t to level n = 1 := by unfold delE; rw [if_pos (.inr (.inr (.inl hg18)))]
    exact X_return (nt 1) rfl ⟨by rw [hE155], ⟨F, G, ⟨_, by rw [show delS xs s who t to level n = s from by unfold delS; rw [hE155, if_neg (by decide)]]; exact h⟩, by rw [show delC2 xs cs s who t to level n = cs from by unfold delC2; rw [hE155, if_neg (by decide)]]; exact hl, hFr, hGr, hdis⟩, hK0⟩
  ·
   refine OI_eq [(0, pt v), (1, pt l), (2, nt who), (3, nt t), (4, nt to), (5, nt level), (6, nt n), (32, .bool true)] (by first | simp [hg12] | rfl) ?_
   refine OI_static 36 [(0, pt v), (1, pt l), (2, nt who), (3, nt t), (4, nt to), (5, nt level), (6, nt n), (51, .bool true)] (by kernel_rfl) ?_
   refine OI_end rfl ?_
   refine X_then ?_
   refine V_true rfl ?_
   refine V_seq ?_
   refine V_region ?_
   refine OI_static 1 [(14, nt 1)] (by kernel_rfl) ?_
   refine OI_end rfl ?_
   refine X_then ?_
   refine V_ret ?_
   refine X_ret_then ?_
   have hE156 : delE xs s who t to level n = 1 := by unfold delE; rw [if_pos (.inr (.inl hg12))]
   exact X_return (nt 1) rfl ⟨by rw [hE156], ⟨F, G, ⟨_, by rw [show delS xs s who t to level n = s from by unfold delS; rw [hE156, if_neg (by decide)]]; exact h⟩, by rw [show delC2 xs cs s who t to level n = cs from by unfold delC2; rw [hE156, if_neg (by decide)]]; exact hl, hFr, hGr, hdis⟩, hK0⟩
 ·
  refine OI_eq [(0, pt v), (1, pt l), (2, nt who), (3, nt t), (4, nt to), (5, nt level), (6, nt n), (27, .bool true)] (by first | simp [hg6] | rfl) ?_
  refine OI_static 36 [(0, pt v), (1, pt l), (2, nt who), (3, nt t), (4, nt to), (5, nt level), (6, nt n), (51, .bool true)] (by kernel_rfl) ?_
  refine OI_end rfl ?_
  refine X_then ?_
  refine V_true rfl ?_
  refine V_seq ?_
  refine V_region ?_
  refine OI_static 1 [(14, nt 1)] (by kernel_rfl) ?_
  refine OI_end rfl ?_
  refine X_then ?_
  refine V_ret ?_
  refine X_ret_then ?_
  have hE157 : delE xs s who t to level n = 1 := by unfold delE; rw [if_pos (.inl hg6)]
  exact X_return (nt 1) rfl ⟨by rw [hE157], ⟨F, G, ⟨_, by rw [show delS xs s who t to level n = s from by unfold delS; rw [hE157, if_neg (by decide)]]; exact h⟩, by rw [show delC2 xs cs s who t to level n = cs from by unfold delC2; rw [hE157, if_neg (by decide)]]; exact hl, hFr, hGr, hdis⟩, hK0⟩
end Go.Al


namespace Go.Al
open Go Go.RowKit Go.Proofs
def VS.zero : VS := ⟨List.replicate 12 none, [], fun _ _ => RecS.zero⟩
theorem Vot.new {F1 F2 : Nat → Prop} {w : World} {v gv gr : Nat} (h1 : GV.Grd F1 w gv []) (h2 : GR.Grd F2 w gr []) (hb : Blk w v ((List.replicate 12 none).map Value.pointer ++ [.pointer (some ⟨gv, 0, none⟩), .pointer (some ⟨gr, 0, none⟩)]) 94) (d12 : ∀ q, F1 q → ¬ F2 q) (n1 : ∀ q, F1 q → q ≠ v) (n2 : ∀ q, F2 q → q ≠ v) :
    Vot (fun q => F1 q ∨ F2 q ∨ q = v) w v ⟨gv, gr, List.replicate 12 none, []⟩ VS.zero := by
  refine ⟨F1, F2, fun q => q = v, ⟨⟨rfl, (fun c hc => by cases hc), (fun a t d hd => by cases hd)⟩, h1, h2, rfl, fun q hq => by rw [hq]; exact hb.lt, d12, n1, n2, rfl, hb, fun i hi => ?_, ?_, fun c hc => (by cases hc), fun a t => .inl ⟨rfl, rfl⟩, ?_⟩, fun _ h => .inl h, fun _ h => .inr (.inl h), fun _ h => .inr (.inr h), ?_⟩
  · left
    show (List.replicate 12 none)[i]? = some none ∧ (List.replicate 12 none)[i]? = some none
    rw [List.getElem?_replicate, List.getElem?_replicate, if_pos hi, if_pos hi]; exact ⟨rfl, rfl⟩
  · intro i j b hi
    have hi' : (List.replicate 12 (none : Option Addr))[i]? = some (some ⟨b, 0, none⟩) := hi
    rw [List.getElem?_replicate] at hi'
    split at hi' <;> cases hi'
  · intro a t a' t' q hq; cases hq
  · rintro q (h | h | rfl)
    · exact h1.lt q h
    · exact h2.lt q h
    · exact hb.lt
theorem TrkOk.zero : TrkOk VS.zero := by
  intro i q h
  have h' : (List.replicate 12 (none : Option PollS))[i]? = some (some q) := h
  rw [List.getElem?_replicate] at h'
  split at h' <;> cases h'
theorem TrkOk.setP {s : VS} (h : TrkOk s) {i : Nat} {q : PollS} (hq : 0 ≤ q.track ∧ q.track < 4) : TrkOk (s.setP i q) := by
  intro j q' e
  have e' : (s.ps.set i (some q))[j]? = some (some q') := e
  rw [List.getElem?_set] at e'
  split at e'
  · split at e'
    · simp only [Option.some.injEq] at e'; rw [← e']; exact hq
    · cases e'
  · exact h j q' e'
theorem TrkOk.poll {s : VS} (h : TrkOk s) {ref : Int} {q : PollS} (e : pollAt s ref = some q) : 0 ≤ q.track ∧ q.track < 4 := by
  unfold pollAt at e
  split at e
  · cases hg : s.ps[ref.toNat]? with
    | none => rw [hg] at e; cases e
    | some x => rw [hg] at e; exact h _ _ (by rw [hg]; exact congrArg some e)
  · cases e
theorem TrkOk.cs {s : VS} (h : TrkOk s) (c : List GV.Ci) : TrkOk { s with cs := c } := h
theorem TrkOk.setR {s : VS} (h : TrkOk s) (a t : Int) (r : RecS) : TrkOk (s.setR a t r) := h
theorem TrkOk.retally {was now : Wgt} : ∀ (l : List (Int × Vt)) {s : VS}, TrkOk s → TrkOk (retally was now s l)
  | [], s, h => h
  | c :: l, s, h => by
    refine TrkOk.retally l (s := retally1 was now s c) ?_
    unfold retally1
    split
    · rename_i q hq
      split
      · exact h.setP (show 0 ≤ q.track ∧ q.track < 4 from h _ _ hq)
      · exact h
    · exact h
theorem TrkOk.gets {s : VS} (h : TrkOk s) (a t : Int) (wt : Wgt) : TrkOk (getsS s a t wt) := TrkOk.retally _ (h.setR a t _)
theorem TrkOk.openS {s : VS} (h : TrkOk s) (ref t : Int) : TrkOk (openS s ref t) := by
  unfold Al.openS
  split
  · rename_i he
    refine h.setP ?_
    show 0 ≤ t ∧ t < 4
    unfold openE at he
    split at he
    · cases he
    · omega
  · exact h
theorem TrkOk.voteS {s : VS} (h : TrkOk s) (xs : List Acc) (who ref : Int) (x : Vt) : TrkOk (voteS xs s who ref x) := by
  unfold Al.voteS
  split
  · split
    · exact h
    · rename_i q hq; exact h.setP (show 0 ≤ q.track ∧ q.track < 4 from h.poll hq)
  · exact h
theorem TrkOk.delS {s : VS} (h : TrkOk s) (xs : List Acc) (who t to level n : Int) : TrkOk (delS xs s who t to level n) := by
  unfold Al.delS
  split
  · exact (h.setR _ _ _).gets _ _ _
  · exact h
theorem TrkOk.undS {s : VS} (h : TrkOk s) (who t now : Int) : TrkOk (undS s who t now) := by
  unfold Al.undS
  split
  · split
    · exact h
    · exact ((h.setR _ _ _).gets _ _ _).setR _ _ _
  · exact h
/-- The voting at v. -/
def VotT (F : Nat → Prop) (w : World) (v : Nat) (s : VS) : Prop := VotE F w v s ∧ TrkOk s
section
variable {F S : Nat → Prop} {w w' : World} {v N : Nat} {s : VS}
theorem VotT.lt (h : VotT F w v s) : ∀ q, F q → q < w.heap.size := h.1.lt
theorem VotT.at_ (h : VotT F w v s) : F v := h.1.at_
theorem VotT.keep (h : VotT F w v s) (k : Keep S w w') (hS : ∀ q, F q → ¬ S q) : VotT F w' v s := ⟨h.1.keep k hS, h.2⟩
theorem VotT.quiet (h : VotT F w v s) (k : Keep (lb N w) w w') : VotT F w' v s := ⟨h.1.quiet k, h.2⟩
theorem VotT.inv (h : VotT F w v s) : s.Inv := h.1.inv
end

set_option maxRecDepth 10000 in
theorem new_votT (w : World) : Calls Tryz.prog 42 #[] w fun e w' => ∃ v F, e = .returned (.pointer (some ⟨v, 0, none⟩)) ∧ VotT F w' v VS.zero ∧ Keep none_ w w' ∧ (∀ q, F q → w.heap.size ≤ q) := by
 have hK0 : Keep none_ w w := Keep.refl _ _
 have hzhK0 := Keep.size hK0
 refine enterV Tryz.func42 rfl [] 5 rfl rfl rfl ?_
 refine V_pick [] rfl ?_
 refine V_seq ?_
 refine V_region ?_
 refine OI_static 1 [] (by kernel_rfl) ?_
 refine OI_end rfl ?_
 refine X_then ?_
 refine V_seq ?_
 refine V_region ?_
 refine OI_call { callee := (Callee.value (Operand.func 85)), args := #[], argTypes := #[] } 85 #[] (some 1) (by kernel_rfl) (by kernel_rfl) (by kernel_rfl) (GV.new_grd _) ?_
 rintro _ w1 ⟨g3, F4, rfl, ho5, hk2, hge6⟩
 refine ⟨_, rfl, ?_⟩
 have hsz7 := Keep.size hk2
 replace hK0 := Keep.tr hK0 (Keep.ofNone hk2)
 have own8 : ∀ q, F4 q → w.heap.size ≤ q := fun q hq => by have h1 := hge6 q hq; omega
 have lt9 := GV.Grd.lt ho5
 have hg3lt : g3 < w1.heap.size := GV.Grd.lt ho5 _ (GV.Grd.at_ ho5)
 have hg3ge := hge6 _ (GV.Grd.at_ ho5)
 refine OI_call { callee := (Callee.value (Operand.func 86)), args := #[], argTypes := #[] } 86 #[] (some 2) (by kernel_rfl) (by kernel_rfl) (by kernel_rfl) (GR.new_grd _) ?_
 rintro _ w10 ⟨g12, F13, rfl, ho14, hk11, hge15⟩
 refine ⟨_, rfl, ?_⟩
 have hsz16 := Keep.size hk11
 replace hK0 := Keep.tr hK0 (Keep.ofNone hk11)
 replace ho5 := GV.Grd.keep ho5 hk11 (fun _ _ f => f)
 have own17 : ∀ q, F13 q → w1.heap.size ≤ q := fun q hq => by have h1 := hge15 q hq; omega
 have lt18 := GR.Grd.lt ho14
 have dis19 : ∀ q, F13 q → ¬ F4 q := fun q h1 h2 => by have h3 := hge15 q h1; have h4 := lt9 q h2; omega
 have hg12lt : g12 < w10.heap.size := GR.Grd.lt ho14 _ (GR.Grd.at_ ho14)
 have hg12ge := hge15 _ (GR.Grd.at_ ho14)
 refine OI_static 3 [(3, .agg #[.pointer none, .pointer none, .pointer none, .pointer none, .pointer none, .pointer none, .pointer none, .pointer none, .pointer none, .pointer none, .pointer none, .pointer none, pt g3, pt g12])] (by kernel_rfl) ?_
 refine OI_box 94 (.tmp 3) (.agg #[.pointer none, .pointer none, .pointer none, .pointer none, .pointer none, .pointer none, .pointer none, .pointer none, .pointer none, .pointer none, .pointer none, .pointer none, pt g3, pt g12]) [.pointer none, .pointer none, .pointer none, .pointer none, .pointer none, .pointer none, .pointer none, .pointer none, .pointer none, .pointer none, .pointer none, .pointer none, pt g3, pt g12] (some 4) (by kernel_rfl) (by kernel_rfl) (by kernel_rfl) ?_
 intro b20 w20 e20 hb20 k20 z20
 have hsz21 := Keep.size k20
 replace hK0 := Keep.tr hK0 (Keep.ofNone k20)
 replace ho5 := GV.Grd.keep ho5 k20 (fun _ _ f => f)
 replace ho14 := GR.Grd.keep ho14 k20 (fun _ _ f => f)
 have hb20lt := hb20.lt
 refine OI_static 5 [(0, pt b20)] (by kernel_rfl) ?_
 refine OI_end rfl ?_
 refine X_then ?_
 refine V_ret ?_
 exact X_return _ rfl ⟨b20, _, rfl, ⟨⟨_, Vot.new (gv := g3) (gr := g12) ho5 ho14 hb20 (fun q h1 h2 => dis19 q h2 h1) (fun q hq => by have h1 := lt9 q hq; omega) (fun q hq => by have h1 := lt18 q hq; omega)⟩, TrkOk.zero⟩, hK0, fun q hq => by rcases hq with h | h | h; (have h1 := own8 q h; omega); (have h1 := own17 q h; omega); omega⟩

theorem vote_spec (F G : Nat → Prop) (v l : Nat) (s : VS) (xs : List Acc) (cs : List Ci) (who ref : Int) (x : Vt) (w : World) (h : VotT F w v s) (hl : Led G w l xs cs) (hdis : ∀ q, F q → ¬ G q) (hmax : cs.length < 100000) : Calls Tryz.prog 18 #[.pointer (some ⟨v, 0, none⟩), .pointer (some ⟨l, 0, none⟩), .int .i64 who, .int .i64 ref, .agg x.cells.toArray] w fun e w' => e = .returned (.int .i64 (voteE xs s who ref x)) ∧ (∃ F' G', VotT F' w' v (voteS xs s who ref x) ∧ Led G' w' l xs (voteC xs cs s who ref x) ∧ (∀ q, F' q → F q ∨ w.heap.size ≤ q) ∧ (∀ q, G' q → G q ∨ w.heap.size ≤ q) ∧ (∀ q, F' q → ¬ G' q)) ∧ Keep (fun q => F q ∨ G q) w w' := by
  obtain ⟨⟨P, h⟩, ht⟩ := h
  refine (vote_at F G v l P s xs cs who ref x w h hl hdis ht hmax).mono ?_
  rintro e w' ⟨rfl, ⟨F', G', h1, h2, h3⟩, hk⟩
  exact ⟨rfl, ⟨F', G', ⟨h1, ht.voteS _ _ _ _⟩, h2, h3⟩, hk⟩

theorem delegate_spec (F G : Nat → Prop) (v l : Nat) (s : VS) (xs : List Acc) (cs : List Ci) (who t to level n : Int) (w : World) (h : VotT F w v s) (hl : Led G w l xs cs) (hdis : ∀ q, F q → ¬ G q) (hmax : cs.length < 100000) : Calls Tryz.prog 17 #[.pointer (some ⟨v, 0, none⟩), .pointer (some ⟨l, 0, none⟩), .int .i64 who, .int .i64 t, .int .i64 to, .int .i64 level, .int .i64 n] w fun e w' => e = .returned (.int .i64 (delE xs s who t to level n)) ∧ (∃ F' G', VotT F' w' v (delS xs s who t to level n) ∧ Led G' w' l xs (delC2 xs cs s who t to level n) ∧ (∀ q, F' q → F q ∨ w.heap.size ≤ q) ∧ (∀ q, G' q → G q ∨ w.heap.size ≤ q) ∧ (∀ q, F' q → ¬ G' q)) ∧ Keep (fun q => F q ∨ G q) w w' := by
  obtain ⟨⟨P, h⟩, ht⟩ := h
  refine (delegate_at F G v l P s xs cs who t to level n w h hl hdis hmax).mono ?_
  rintro e w' ⟨rfl, ⟨F', G', h1, h2, h3⟩, hk⟩
  exact ⟨rfl, ⟨F', G', ⟨h1, ht.delS _ _ _ _ _ _⟩, h2, h3⟩, hk⟩

theorem open_specT (F : Nat → Prop) (v : Nat) (s : VS) (ref t : Int) (w : World) (h : VotT F w v s) : Calls Tryz.prog 16 #[.pointer (some ⟨v, 0, none⟩), .int .i64 ref, .int .i64 t] w fun e w' => e = .returned (.int .i64 (openE s ref t)) ∧ (∃ F', VotT F' w' v (openS s ref t) ∧ (∀ q, F' q → F q ∨ w.heap.size ≤ q)) ∧ Keep F w w' := by
  obtain ⟨h, ht⟩ := h
  refine (open_spec F v s ref t w h).mono ?_
  rintro e w' ⟨rfl, ⟨F', h1, h3⟩, hk⟩
  exact ⟨rfl, ⟨F', ⟨h1, ht.openS _ _⟩, h3⟩, hk⟩

end Go.Al


namespace Go.Al
open Go Go.RowKit Go.Proofs
theorem new_ok (A : Option Addr) (cap : Nat) (fs : List Int) (w : World) (hA : ArgT w 1 intc A cap fs) (hn : fs.length ≤ 100000) (hok : okP fs) : Calls Tryz.prog 29 #[.slice A fs.length cap] w fun e w' => ∃ l F, e = .returned (.tuple #[.pointer (some ⟨l, 0, none⟩), .int .i64 0]) ∧ Led F w' l (newX fs 10) [] ∧ Keep none_ w w' ∧ (∀ q, F q → w.heap.size ≤ q) :=
  (new_spec6 A cap fs w hA hn).mono (by
    rintro e w' (⟨_, h⟩ | ⟨h, _⟩)
    · exact h
    · exact absurd hok h)

set_option maxRecDepth 10000 in
theorem rVotes_spec (n level : Int) (w : World) : Calls Tryz.prog 24 #[.int .i64 n, .int .i64 level] w fun e w' => e = .returned (.int .i64 (cvVotes n level)) ∧ w' = w := by
 refine enterV Tryz.func24 rfl [nt n, nt level] 12 rfl rfl rfl ?_
 refine V_pick [(0, nt n), (1, nt level)] rfl ?_
 refine V_seq ?_
 refine V_region ?_
 refine OI_static 1 [(0, nt n), (1, nt level)] (by kernel_rfl) ?_
 refine OI_end rfl ?_
 refine X_then ?_
 refine V_seq ?_
 refine V_seq ?_
 refine V_region ?_
 refine OI_static 2 [(0, nt n), (1, nt level), (6, .bool (decide (level = 0)))] (by kernel_rfl) ?_
 refine OI_end rfl ?_
 refine X_then ?_
 refine V_if (level = 0) (by kernel_rfl) (fun hc1 => ?_) (fun hc1 => ?_)
 ·
  refine V_seq ?_
  refine V_region ?_
  refine OI_static 3 [(4, nt (IntKind.i64.wrap (Int.tdiv n 10)))] (by kernel_rfl) ?_
  refine OI_end rfl ?_
  refine X_then ?_
  refine V_ret ?_
  refine X_ret_then ?_
  exact X_return (nt (IntKind.i64.wrap (Int.tdiv n 10))) rfl ⟨by unfold cvVotes; simp [*], rfl⟩
 ·
  refine V_skip ?_
  refine X_then ?_
  refine V_seq ?_
  refine V_region ?_
  refine OI_static 4 [(4, nt (IntKind.i64.wrap (n * level)))] (by kernel_rfl) ?_
  refine OI_end rfl ?_
  refine X_then ?_
  refine V_ret ?_
  exact X_return (nt (IntKind.i64.wrap (n * level))) rfl ⟨by unfold cvVotes; simp [*], rfl⟩

end Go.Al


namespace Go.Al
open Go Go.RowKit Go.Proofs
end Go.Al


namespace Go.Al
open Go Go.RowKit Go.Proofs
set_option maxRecDepth 10000 in
theorem rnew6_weak (A : Option Addr) (cap : Nat) (fs : List Int) (w : World) (hA0 : ArgT w 1 intc A cap fs) (hn : fs.length ≤ 100000) : Calls Tryz.prog 41 #[.slice A fs.length cap] w fun e w' => ∃ pv n, e = .returned (.tuple #[.pointer pv, .int .i64 n]) ∧ Keep none_ w w' := by
 have hA := hA0
 have hK0 : Keep none_ w w := Keep.refl _ _
 have hzhK0 := Keep.size hK0
 refine enterV Tryz.func41 rfl [.slice A fs.length cap] 51 rfl rfl rfl ?_
 refine V_pick [(0, .slice A fs.length cap)] rfl ?_
 refine V_seq ?_
 refine V_region ?_
 refine OI_static 2 [(0, .slice A fs.length cap)] (by kernel_rfl) ?_
 refine OI_end rfl ?_
 refine X_then ?_
 refine V_seq ?_
 refine V_seq ?_
 refine V_region ?_
 refine OI_static 3 [(0, .slice A fs.length cap), (9, .bool (decide (((fs.length : Nat) : Int) > 10)))] (by kernel_rfl) ?_
 refine OI_end rfl ?_
 refine X_then ?_
 refine V_if (((fs.length : Nat) : Int) > 10) (by kernel_rfl) (fun hc1 => ?_) (fun hc1 => ?_)
 ·
  refine V_seq ?_
  refine V_region ?_
  refine OI_static 2 [(2, .pointer none), (3, nt 1)] (by kernel_rfl) ?_
  refine OI_end rfl ?_
  refine X_then ?_
  refine V_ret ?_
  refine X_ret_then ?_
  exact X_return (.tuple #[.pointer none, nt 1]) rfl ⟨_, _, rfl, hK0⟩
 ·
  refine V_skip ?_
  refine X_then ?_
  refine V_seq ?_
  refine V_region ?_
  refine OI_make (E := 138) (sz := 3) (by_ := 40) (m := 10) (kd := .i64) (zv := .agg #[nt 0, nt 0, .slice none 0 0]) 133 (.const (Value.int IntKind.i64 10)) (.const (Value.int IntKind.i64 10)) ((List.replicate 10 [nt 0, nt 0, .slice none 0 0]).flatten) (some 10) (by kernel_rfl) (by kernel_rfl) (by kernel_rfl) (by kernel_rfl) (by kernel_rfl) (by decide) (by decide) (by kernel_rfl) ?_
  intro b2 w2 e2 hb2 k2 z2
  have hsz3 := Keep.size k2
  replace hA := ArgT.keep0 hA k2
  replace hK0 := Keep.tr hK0 (Keep.ofNone k2)
  have hb2lt := hb2.lt
  refine OI_static 2 [(0, .slice A fs.length cap), (11, .agg #[.slice (some ⟨b2, 0, none⟩) 10 10])] (by kernel_rfl) ?_
  refine OI_box 135 (.tmp 11) (.agg #[.slice (some ⟨b2, 0, none⟩) 10 10]) [.slice (some ⟨b2, 0, none⟩) 10 10] (some 12) (by kernel_rfl) (by kernel_rfl) (by kernel_rfl) ?_
  intro b4 w4 e4 hb4 k4 z4
  have hsz5 := Keep.size k4
  replace hb2 := hb2.keep k4 (fun f => f)
  replace hA := ArgT.keep0 hA k4
  replace hK0 := Keep.tr hK0 (Keep.ofNone k4)
  have hb4lt := hb4.lt
  refine OI_static 4 [(0, .slice A fs.length cap), (4, pt b4)] (by kernel_rfl) ?_
  refine OI_end rfl ?_
  refine X_then ?_
  refine V_seq ?_
  refine V_region ?_
  refine OI_static 1 [(0, .slice A fs.length cap), (4, pt b4), (5, nt 0)] (by kernel_rfl) ?_
  refine OI_end rfl ?_
  refine X_then ?_
  refine V_seq ?_
  refine V_seq ?_
  refine V_region ?_
  refine OI_static 1 [(0, .slice A fs.length cap), (4, pt b4), (5, nt 0), (6, nt 0)] (by kernel_rfl) ?_
  refine OI_end rfl ?_
  refine X_then ?_
  refine V_block ?_
  refine V_pick [(0, .slice A fs.length cap), (4, pt b4), (5, nt 0), (6, nt 0)] rfl ?_
  refine V_loop (fun k wI e => ∃ i : Nat, ∃ s5 : Int, ∃ Lx : List Value, (k + i = fs.length) ∧ (Blk wI b2 Lx 138) ∧ (Lx.length = 30) ∧ Keep (only b2) w4 wI ∧ e = [(0, .slice A fs.length cap), (4, pt b4), (5, nt s5), (6, nt ((i : Nat) : Int))]) fs.length ⟨0, 0, (List.replicate 10 [nt 0, nt 0, .slice none 0 0]).flatten, by omega, hb2, by decide, Keep.refl _ _, rfl⟩ ?_
  rintro k7 w6 _ ⟨i, s5, Lx, hki, hB, hLx, hk8, rfl⟩
  have hsz9 := Keep.size hk8
  replace hb4 := hb4.keep hk8 (by show ¬ (_ = _); omega)
  replace hA := ArgT.keep hA hk8 hA0 (fun k hk hs => by have hs : k = b2 := hs; omega)
  replace hK0 := Keep.fresh hK0 hk8 (by intro i hi hs; first | exact hs | exact Or.inl hs | exact Or.inr hs | (exfalso; have hs2 : i = b2 := hs; omega))
  have hzhk8 := Keep.size hk8
  have hb2lt := hB.lt
  refine V_seq ?_
  refine V_seq ?_
  refine V_region ?_
  refine OI_static 4 [(0, .slice A fs.length cap), (4, pt b4), (5, nt s5), (6, nt ((i : Nat) : Int)), (16, .bool (decide (((i : Nat) : Int) < ((fs.length : Nat) : Int))))] (by kernel_rfl) ?_
  refine OI_end rfl ?_
  refine X_then ?_
  refine V_if (((i : Nat) : Int) < ((fs.length : Nat) : Int)) (by kernel_rfl) (fun hc10 => ?_) (fun hc10 => ?_)
  ·
   refine V_skip ?_
   refine X_then ?_
   refine V_seq ?_
   refine V_block ?_
   refine V_seq ?_
   refine V_seq ?_
   refine V_region ?_
   refine OI_static 2 [(0, .slice A fs.length cap), (4, pt b4), (5, nt s5), (6, nt ((i : Nat) : Int)), (19, .slice A fs.length cap), (20, nt ((i : Nat) : Int))] (by kernel_rfl) ?_
   obtain ⟨b11, o11, L11, rfl, hat11⟩ := ArgT.open_ hA (by first | omega | (simp only [List.length_map]; omega) | (simp; done) | (simp; omega))
   have hb11lt0 := ArgT.lt hA0 (by first | omega | (simp only [List.length_map]; omega) | (simp; done) | (simp; omega))
   have hb11lt := hat11.blk.lt
   refine OI_pure (some 21) (.indexAddr 28 (.tmp 19) (.tmp 20)) (by kernel_rfl) (pure_idxN (b := b11) (o := o11) (len := fs.length) (cap := cap) (kd := .i64) (j := i) (E := 3) (sz := 1) (by_ := 8) (by kernel_rfl) (by kernel_rfl) (by kernel_rfl) (by omega)) ?_
   obtain ⟨x12, hx13⟩ : ∃ x, fs[i]? = some x := ⟨_, List.getElem?_eq_getElem (by first | omega | (simp only [List.length_map]; omega))⟩
   refine OI_cellR 3 (.tmp 21) (o11 + i * 1) (nt x12) (some 22) (by kernel_rfl) (by kernel_rfl) hat11.blk (m := 1) (by kernel_rfl) (AtR.cell0 hat11 (es_at hx13) rfl) ?_
   refine OI_static 6 [(0, .slice (some ⟨b11, o11, none⟩) fs.length cap), (4, pt b4), (5, nt s5), (6, nt ((i : Nat) : Int)), (24, .bool (decide (x12 < 0)))] (by kernel_rfl) ?_
   by_cases hg14 : x12 < 0
   ·
    refine OI_eq [(0, .slice (some ⟨b11, o11, none⟩) fs.length cap), (4, pt b4), (5, nt s5), (6, nt ((i : Nat) : Int)), (24, .bool true)] (by first | simp [hg14] | rfl) ?_
    refine OI_static 12 [(0, .slice (some ⟨b11, o11, none⟩) fs.length cap), (4, pt b4), (5, nt s5), (6, nt ((i : Nat) : Int)), (25, undef), (26, undef), (27, undef), (28, undef), (29, undef), (30, .bool true)] (by kernel_rfl) ?_
    refine OI_end rfl ?_
    refine X_then ?_
    refine V_true rfl ?_
    refine V_seq ?_
    refine V_region ?_
    refine OI_static 2 [(2, .pointer none), (3, nt 1)] (by kernel_rfl) ?_
    refine OI_end rfl ?_
    refine X_then ?_
    refine V_ret ?_
    refine X_ret_then ?_
    refine X_ret_block ?_
    refine X_ret_then ?_
    refine X_ret_then ?_
    refine X_ret_block ?_
    refine X_ret_then ?_
    exact X_return (.tuple #[.pointer none, nt 1]) rfl ⟨_, _, rfl, hK0⟩
   ·
    refine OI_eq [(0, .slice (some ⟨b11, o11, none⟩) fs.length cap), (4, pt b4), (5, nt s5), (6, nt ((i : Nat) : Int)), (24, .bool false)] (by first | simp [hg14] | rfl) ?_
    refine OI_static 8 [(0, .slice (some ⟨b11, o11, none⟩) fs.length cap), (4, pt b4), (5, nt s5), (6, nt ((i : Nat) : Int)), (24, .bool false), (25, .slice (some ⟨b11, o11, none⟩) fs.length cap), (26, nt ((i : Nat) : Int))] (by kernel_rfl) ?_
    refine OI_pure (some 27) (.indexAddr 28 (.tmp 25) (.tmp 26)) (by kernel_rfl) (pure_idxN (b := b11) (o := o11) (len := fs.length) (cap := cap) (kd := .i64) (j := i) (E := 3) (sz := 1) (by_ := 8) (by kernel_rfl) (by kernel_rfl) (by kernel_rfl) (by omega)) ?_
    refine OI_cellR 3 (.tmp 27) (o11 + i * 1) (nt x12) (some 28) (by kernel_rfl) (by kernel_rfl) hat11.blk (m := 1) (by kernel_rfl) (AtR.cell0 hat11 (es_at hx13) rfl) ?_
    refine OI_static 12 [(0, .slice (some ⟨b11, o11, none⟩) fs.length cap), (4, pt b4), (5, nt s5), (6, nt ((i : Nat) : Int)), (25, .slice (some ⟨b11, o11, none⟩) fs.length cap), (26, nt ((i : Nat) : Int)), (27, .pointer (some ⟨b11, o11 + i * 1, none⟩)), (28, nt x12), (29, .bool (decide (x12 > 1073741824))), (30, .bool (decide (x12 > 1073741824)))] (by kernel_rfl) ?_
    refine OI_end rfl ?_
    refine X_then ?_
    refine V_if (x12 > 1073741824) (by kernel_rfl) (fun hc15 => ?_) (fun hc15 => ?_)
    ·
     refine V_seq ?_
     refine V_region ?_
     refine OI_static 2 [(2, .pointer none), (3, nt 1)] (by kernel_rfl) ?_
     refine OI_end rfl ?_
     refine X_then ?_
     refine V_ret ?_
     refine X_ret_then ?_
     refine X_ret_block ?_
     refine X_ret_then ?_
     refine X_ret_then ?_
     refine X_ret_block ?_
     refine X_ret_then ?_
     exact X_return (.tuple #[.pointer none, nt 1]) rfl ⟨_, _, rfl, hK0⟩
    ·
     refine V_skip ?_
     refine X_then ?_
     refine V_seq ?_
     refine V_draws (acts [11]) (only b2) [[0, 1, 2, 3, 4, 5, 6, 7, 8, 9, 10, 11]] (by kernel_rfl) (by repeat first | exact sure_body (by rintro _ _ ⟨_, _, h, _⟩; exact ⟨_, h⟩) | refine sure_then ?_ | refine sure_block ?_ | refine sure_join ?_) (by kernel_rfl) ?_
     intro w17 hk16 he18 L hL19
     have hsz20 := Keep.size hk16
     replace hB := hB.keep hk16 (fun f => f)
     replace hb4 := hb4.keep hk16 (fun f => f)
     replace hat11 := hat11.keep hk16 (fun f => f)
     replace hK0 := Keep.tr hK0 (Keep.ofNone hk16)
     replace hk8 := Keep.tr hk8 (Keep.ofNone hk16)
     have qhB := hB
     have qhb4 := hb4
     have qhat11 := hat11
     have K21 : Keep (only b2) w17 w17 := Keep.refl _ _
     obtain rfl := List.mem_singleton.1 hL19
     refine GI_static [3, 4, 5, 6, 7, 8, 9, 10, 11] [(0, .slice (some ⟨b11, o11, none⟩) fs.length cap), (4, pt b4), (5, nt s5), (6, nt ((i : Nat) : Int)), (25, .slice (some ⟨b11, o11, none⟩) fs.length cap), (26, nt ((i : Nat) : Int)), (27, .pointer (some ⟨b11, o11 + i * 1, none⟩)), (28, nt x12), (29, .bool (decide (x12 > 1073741824))), (33, pt b4)] (by kernel_rfl) ?_
     refine GI_cell 133 (.tmp 33) 0 (.slice (some ⟨b2, 0, none⟩) 10 10) (some 34) (by kernel_rfl) (by kernel_rfl) (by kernel_rfl) qhb4 (by show ¬ (_ = _); omega) (m := 1) (by kernel_rfl) rfl ?_
     refine GI_static [7, 8, 9, 10, 11] [(0, .slice (some ⟨b11, o11, none⟩) fs.length cap), (4, pt b4), (5, nt s5), (6, nt ((i : Nat) : Int)), (25, .slice (some ⟨b11, o11, none⟩) fs.length cap), (26, nt ((i : Nat) : Int)), (27, .pointer (some ⟨b11, o11 + i * 1, none⟩)), (28, nt x12), (29, .bool (decide (x12 > 1073741824))), (34, .slice (some ⟨b2, 0, none⟩) 10 10), (35, nt ((i : Nat) : Int)), (36, .slice (some ⟨b11, o11, none⟩) fs.length cap), (37, nt ((i : Nat) : Int))] (by kernel_rfl) ?_
     refine GI_pure (some 38) (.indexAddr 28 (.tmp 36) (.tmp 37)) (by kernel_rfl) (by kernel_rfl) (pure_idxN (b := b11) (o := o11) (len := fs.length) (cap := cap) (kd := .i64) (j := i) (E := 3) (sz := 1) (by_ := 8) (by kernel_rfl) (by kernel_rfl) (by kernel_rfl) (by omega)) ?_
     refine GI_cellR 3 (.tmp 38) (o11 + i * 1) (nt x12) (some 39) (by kernel_rfl) (by kernel_rfl) (by kernel_rfl) qhat11.blk (by show ¬ (_ = _); omega) (m := 1) (by kernel_rfl) (AtR.cell0 qhat11 (es_at hx13) rfl) ?_
     refine GI_pure (some 40) (.indexAddr 133 (.tmp 34) (.tmp 35)) (by kernel_rfl) (by kernel_rfl) (pure_idxN (b := b2) (o := 0) (len := 10) (cap := 10) (kd := .i64) (j := i) (E := 138) (sz := 3) (by_ := 40) (by kernel_rfl) (by kernel_rfl) (by kernel_rfl) (by omega)) ?_
     refine GI_static [11] [(0, .slice (some ⟨b11, o11, none⟩) fs.length cap), (4, pt b4), (5, nt s5), (6, nt ((i : Nat) : Int)), (25, .slice (some ⟨b11, o11, none⟩) fs.length cap), (26, nt ((i : Nat) : Int)), (27, .pointer (some ⟨b11, o11 + i * 1, none⟩)), (28, nt x12), (29, .bool (decide (x12 > 1073741824))), (39, nt x12), (41, .pointer (some ⟨b2, 0 + i * 3, none⟩))] (by kernel_rfl) ?_
     refine GI_final 11 (by kernel_rfl) (by kernel_rfl) ?_
     refine OI_set (m := 1) (kd := false) 3 (.tmp 41) (.tmp 39) (0 + i * 3) (nt x12) [nt x12] none (by kernel_rfl) (by kernel_rfl) (by kernel_rfl) hB (by kernel_rfl) (by kernel_rfl) (by kernel_rfl) (by rw [hLx]; show 0 + i * 3 + 1 ≤ 30; omega) (by simp [Value.oneCell']) ?_
     intro w22 hb2_25 hk23 hz24
     replace hb2_25 : Blk w22 b2 (over Lx (0 + i * 3) [nt x12]) 138 := hb2_25
     have hsz26 := Keep.size hk23
     replace hb4 := hb4.keep hk23 (by show ¬ (_ = _); omega)
     replace hat11 := hat11.keep hk23 (by show ¬ (_ = _); omega)
     replace hK0 := Keep.fresh hK0 hk23 (by intro i hi hs; first | exact hs | exact Or.inl hs | exact Or.inr hs | (exfalso; have hs2 : i = b2 := hs; omega))
     replace hk8 := Keep.fresh hk8 hk23 (by intro i hi hs; first | exact hs | exact Or.inl hs | exact Or.inr hs | (exfalso; have hs2 : i = b2 := hs; omega))
     refine OI_end rfl ?_
     refine X_then ?_
     refine V_region ?_
     refine OI_static 3 [(0, .slice (some ⟨b11, o11, none⟩) fs.length cap), (4, pt b4), (6, nt ((i : Nat) : Int)), (25, .slice (some ⟨b11, o11, none⟩) fs.length cap), (26, nt ((i : Nat) : Int)), (27, .pointer (some ⟨b11, o11 + i * 1, none⟩)), (28, nt x12), (29, .bool (decide (x12 > 1073741824))), (42, nt s5), (43, .slice (some ⟨b11, o11, none⟩) fs.length cap), (44, nt ((i : Nat) : Int))] (by kernel_rfl) ?_
     refine OI_pure (some 45) (.indexAddr 28 (.tmp 43) (.tmp 44)) (by kernel_rfl) (pure_idxN (b := b11) (o := o11) (len := fs.length) (cap := cap) (kd := .i64) (j := i) (E := 3) (sz := 1) (by_ := 8) (by kernel_rfl) (by kernel_rfl) (by kernel_rfl) (by omega)) ?_
     refine OI_cellR 3 (.tmp 45) (o11 + i * 1) (nt x12) (some 46) (by kernel_rfl) (by kernel_rfl) hat11.blk (m := 1) (by kernel_rfl) (AtR.cell0 hat11 (es_at hx13) rfl) ?_
     refine OI_static 7 [(0, .slice (some ⟨b11, o11, none⟩) fs.length cap), (4, pt b4), (5, nt (IntKind.i64.wrap (s5 + x12))), (6, nt ((i : Nat) : Int)), (25, .slice (some ⟨b11, o11, none⟩) fs.length cap), (26, nt ((i : Nat) : Int)), (27, .pointer (some ⟨b11, o11 + i * 1, none⟩)), (28, nt x12), (29, .bool (decide (x12 > 1073741824)))] (by kernel_rfl) ?_
     refine OI_end rfl ?_
     refine X_block ?_
     refine X_then ?_
     refine V_region ?_
     have hw27 : IntKind.i64.wrap (((i : Nat) : Int) + 1) = ((i + 1 : Nat) : Int) := (wrap64_id (by omega) (by omega)).trans (by omega)
     refine OI_static 2 [(0, .slice (some ⟨b11, o11, none⟩) fs.length cap), (4, pt b4), (5, nt (IntKind.i64.wrap (s5 + x12))), (18, nt (IntKind.i64.wrap (((i : Nat) : Int) + 1))), (25, .slice (some ⟨b11, o11, none⟩) fs.length cap), (26, nt ((i : Nat) : Int)), (27, .pointer (some ⟨b11, o11 + i * 1, none⟩)), (28, nt x12), (29, .bool (decide (x12 > 1073741824)))] (by kernel_rfl) ?_
     refine OI_eq [(0, .slice (some ⟨b11, o11, none⟩) fs.length cap), (4, pt b4), (5, nt (IntKind.i64.wrap (s5 + x12))), (18, nt ((i + 1 : Nat) : Int)), (25, .slice (some ⟨b11, o11, none⟩) fs.length cap), (26, nt ((i : Nat) : Int)), (27, .pointer (some ⟨b11, o11 + i * 1, none⟩)), (28, nt x12), (29, .bool (decide (x12 > 1073741824)))] (by rw [hw27]) ?_
     refine OI_static 3 [(0, .slice (some ⟨b11, o11, none⟩) fs.length cap), (4, pt b4), (5, nt (IntKind.i64.wrap (s5 + x12))), (6, nt ((i + 1 : Nat) : Int)), (25, .slice (some ⟨b11, o11, none⟩) fs.length cap), (26, nt ((i : Nat) : Int)), (27, .pointer (some ⟨b11, o11 + i * 1, none⟩)), (28, nt x12), (29, .bool (decide (x12 > 1073741824)))] (by kernel_rfl) ?_
     refine OI_end rfl ?_
     exact V_again (k7 - 1) (by omega) [(0, .slice (some ⟨b11, o11, none⟩) fs.length cap), (4, pt b4), (5, nt (IntKind.i64.wrap (s5 + x12))), (6, nt ((i + 1 : Nat) : Int))] rfl ⟨i + 1, IntKind.i64.wrap (s5 + x12), (over Lx (0 + i * 3) [nt x12]), by omega, hb2_25, by rw [over_length (by rw [hLx]; show 0 + i * 3 + 1 ≤ 30; omega)]; exact hLx, hk8, rfl⟩
  ·
   refine V_exit ?_
   refine X_exit_then ?_
   refine X_exit_then ?_
   refine X_exit_here ?_
   refine X_then ?_
   refine V_seq ?_
   refine V_seq ?_
   refine V_region ?_
   refine OI_static 2 [(4, pt b4), (49, .bool (decide (s5 > 1073741824)))] (by kernel_rfl) ?_
   refine OI_end rfl ?_
   refine X_then ?_
   refine V_if (s5 > 1073741824) (by kernel_rfl) (fun hc28 => ?_) (fun hc28 => ?_)
   ·
    refine V_seq ?_
    refine V_region ?_
    refine OI_static 2 [(2, .pointer none), (3, nt 1)] (by kernel_rfl) ?_
    refine OI_end rfl ?_
    refine X_then ?_
    refine V_ret ?_
    refine X_ret_then ?_
    exact X_return (.tuple #[.pointer none, nt 1]) rfl ⟨_, _, rfl, hK0⟩
   ·
    refine V_skip ?_
    refine X_then ?_
    refine V_seq ?_
    refine V_region ?_
    refine OI_static 3 [(2, pt b4), (3, nt 0)] (by kernel_rfl) ?_
    refine OI_end rfl ?_
    refine X_then ?_
    refine V_ret ?_
    exact X_return (.tuple #[pt b4, nt 0]) rfl ⟨_, _, rfl, hK0⟩

set_option maxRecDepth 10000 in
theorem rnew11_weak (w : World) : Calls Tryz.prog 43 #[] w fun e w' => ∃ pv, e = .returned (.pointer pv) ∧ Keep none_ w w' := by
 have hK0 : Keep none_ w w := Keep.refl _ _
 have hzhK0 := Keep.size hK0
 refine enterV Tryz.func43 rfl [] 5 rfl rfl rfl ?_
 refine V_pick [] rfl ?_
 refine V_seq ?_
 refine V_region ?_
 refine OI_static 1 [] (by kernel_rfl) ?_
 refine OI_end rfl ?_
 refine X_then ?_
 refine V_seq ?_
 refine V_draws (acts [0, 1, 3]) none_ [[0, 1, 2, 3, 4], [1, 0, 2, 3, 4]] (by kernel_rfl) (by repeat first | exact sure_body (by rintro _ _ ⟨_, h, _⟩; exact ⟨_, h⟩) | refine sure_then ?_ | refine sure_block ?_ | refine sure_join ?_) (by kernel_rfl) ?_
 intro w2 hk1 he3 L hL4
 have hsz5 := Keep.size hk1
 replace hK0 := Keep.tr hK0 (Keep.ofNone hk1)
 have K6 : Keep none_ w2 w2 := Keep.refl _ _
 simp only [List.mem_cons, List.not_mem_nil, or_false] at hL4
 rcases hL4 with rfl | rfl
 ·
  refine GI_make (E := 73) (sz := 7) (by_ := 56) (m := 12) (kd := .i64) (zv := .agg #[.bool false, nt 0, nt 0, nt 0, nt 0, nt 0, nt 0]) 74 (.const (Value.int IntKind.i64 12)) (.const (Value.int IntKind.i64 12)) ((List.replicate 12 [.bool false, nt 0, nt 0, nt 0, nt 0, nt 0, nt 0]).flatten) (some 1) (by kernel_rfl) (by kernel_rfl) K6 (by kernel_rfl) (by kernel_rfl) (by kernel_rfl) (by kernel_rfl) (by decide) (by decide) (by kernel_rfl) ?_
  intro b7 w7 e7 hb7 k7 z7 K8
  have hsz9 := Keep.size k7
  replace hK0 := Keep.tr hK0 (Keep.ofNone k7)
  have hb7lt := hb7.lt
  refine GI_make (E := 167) (sz := 9) (by_ := 88) (m := 40) (kd := .i64) (zv := .agg #[.slice none 0 0, .bool false, nt 0, nt 0, nt 0, nt 0, nt 0, nt 0, nt 0]) 75 (.const (Value.int IntKind.i64 40)) (.const (Value.int IntKind.i64 40)) ((List.replicate 40 [.slice none 0 0, .bool false, nt 0, nt 0, nt 0, nt 0, nt 0, nt 0, nt 0]).flatten) (some 2) (by kernel_rfl) (by kernel_rfl) K8 (by kernel_rfl) (by kernel_rfl) (by kernel_rfl) (by kernel_rfl) (by decide) (by decide) (by kernel_rfl) ?_
  intro b10 w10 e10 hb10 k10 z10 K11
  have hsz12 := Keep.size k10
  replace hb7 := hb7.keep k10 (fun f => f)
  replace hK0 := Keep.tr hK0 (Keep.ofNone k10)
  have hb10lt := hb10.lt
  refine GI_static [3, 4] [(3, .agg #[.slice (some ⟨b7, 0, none⟩) 12 12, .slice (some ⟨b10, 0, none⟩) 40 40])] (by kernel_rfl) ?_
  refine GI_box 77 (.tmp 3) (.agg #[.slice (some ⟨b7, 0, none⟩) 12 12, .slice (some ⟨b10, 0, none⟩) 40 40]) [.slice (some ⟨b7, 0, none⟩) 12 12, .slice (some ⟨b10, 0, none⟩) 40 40] (some 4) (by kernel_rfl) (by kernel_rfl) K11 (by kernel_rfl) (by kernel_rfl) ?_
  intro b13 w13 e13 hb13 k13 z13 K14
  have hsz15 := Keep.size k13
  replace hb7 := hb7.keep k13 (fun f => f)
  replace hb10 := hb10.keep k13 (fun f => f)
  replace hK0 := Keep.tr hK0 (Keep.ofNone k13)
  have hb13lt := hb13.lt
  refine GI_static [] [(0, pt b13)] (by kernel_rfl) ?_
  refine GI_end ?_
  refine X_then ?_
  refine V_ret ?_
  exact X_return _ rfl ⟨_, rfl, hK0⟩
 ·
  refine GI_make (E := 167) (sz := 9) (by_ := 88) (m := 40) (kd := .i64) (zv := .agg #[.slice none 0 0, .bool false, nt 0, nt 0, nt 0, nt 0, nt 0, nt 0, nt 0]) 75 (.const (Value.int IntKind.i64 40)) (.const (Value.int IntKind.i64 40)) ((List.replicate 40 [.slice none 0 0, .bool false, nt 0, nt 0, nt 0, nt 0, nt 0, nt 0, nt 0]).flatten) (some 2) (by kernel_rfl) (by kernel_rfl) K6 (by kernel_rfl) (by kernel_rfl) (by kernel_rfl) (by kernel_rfl) (by decide) (by decide) (by kernel_rfl) ?_
  intro b16 w16 e16 hb16 k16 z16 K17
  have hsz18 := Keep.size k16
  replace hK0 := Keep.tr hK0 (Keep.ofNone k16)
  have hb16lt := hb16.lt
  refine GI_make (E := 73) (sz := 7) (by_ := 56) (m := 12) (kd := .i64) (zv := .agg #[.bool false, nt 0, nt 0, nt 0, nt 0, nt 0, nt 0]) 74 (.const (Value.int IntKind.i64 12)) (.const (Value.int IntKind.i64 12)) ((List.replicate 12 [.bool false, nt 0, nt 0, nt 0, nt 0, nt 0, nt 0]).flatten) (some 1) (by kernel_rfl) (by kernel_rfl) K17 (by kernel_rfl) (by kernel_rfl) (by kernel_rfl) (by kernel_rfl) (by decide) (by decide) (by kernel_rfl) ?_
  intro b19 w19 e19 hb19 k19 z19 K20
  have hsz21 := Keep.size k19
  replace hb16 := hb16.keep k19 (fun f => f)
  replace hK0 := Keep.tr hK0 (Keep.ofNone k19)
  have hb19lt := hb19.lt
  refine GI_static [3, 4] [(3, .agg #[.slice (some ⟨b19, 0, none⟩) 12 12, .slice (some ⟨b16, 0, none⟩) 40 40])] (by kernel_rfl) ?_
  refine GI_box 77 (.tmp 3) (.agg #[.slice (some ⟨b19, 0, none⟩) 12 12, .slice (some ⟨b16, 0, none⟩) 40 40]) [.slice (some ⟨b19, 0, none⟩) 12 12, .slice (some ⟨b16, 0, none⟩) 40 40] (some 4) (by kernel_rfl) (by kernel_rfl) K20 (by kernel_rfl) (by kernel_rfl) ?_
  intro b22 w22 e22 hb22 k22 z22 K23
  have hsz24 := Keep.size k22
  replace hb16 := hb16.keep k22 (fun f => f)
  replace hb19 := hb19.keep k22 (fun f => f)
  replace hK0 := Keep.tr hK0 (Keep.ofNone k22)
  have hb22lt := hb22.lt
  refine GI_static [] [(0, pt b22)] (by kernel_rfl) ?_
  refine GI_end ?_
  refine X_then ?_
  refine V_ret ?_
  exact X_return _ rfl ⟨_, rfl, hK0⟩

def msk24 (fs : List Int) : List Int := fs.map fun x => bAnd x 16777215
theorem msk24_at {fs : List Int} {x : Int} (h : x ∈ msk24 fs) : 0 ≤ x ∧ x ≤ 16777215 := by
  obtain ⟨y, _, rfl⟩ := List.mem_map.1 h
  exact bAnd_le y 16777215 (by decide)
theorem msk24_step {fs : List Int} {i : Nat} {x : Int} (h : fs[i]? = some x) : msk24 (fs.take (i + 1)) = msk24 (fs.take i) ++ [bAnd x 16777215] := by
  obtain ⟨h1, rfl⟩ := List.getElem?_eq_some_iff.1 h
  unfold msk24; rw [List.take_succ_eq_append_getElem h1, List.map_append]; rfl
theorem tot_newX_step (fs : List Int) (n : Nat) : tot (newX fs (n + 1)) = tot (newX fs n) + (fs[n]?).getD 0 := by
  have happ : ∀ (a b : List Acc), tot (a ++ b) = tot a + tot b := by
    intro a b
    induction a with
    | nil => simp [tot]
    | cons y l ih => simp only [List.cons_append, tot, ih]; omega
  rw [newX_succ, happ]
  simp only [tot]
  omega
theorem newX_tot24 {fs : List Int} (h : ∀ x ∈ fs, 0 ≤ x ∧ x ≤ 16777215) : ∀ i : Nat, tot (newX fs i) ≤ i * 16777215
  | 0 => by simp [newX, tot]
  | i + 1 => by
    have ih := newX_tot24 h i
    rw [tot_newX_step]
    have : (fs[i]?).getD 0 ≤ 16777215 := by
      cases hf : fs[i]? with
      | none => simp
      | some x => exact (h x (List.mem_of_getElem? hf)).2
    omega
theorem msk24_ok {fs : List Int} (h : fs.length ≤ 10) : okP (msk24 fs) :=
  ⟨by simpa [msk24] using h, fun x hx => by have := msk24_at hx; omega, by have := newX_tot24 (fs := msk24 fs) (fun x hx => msk24_at hx) 10; omega⟩

set_option maxRecDepth 10000 in
theorem begin_weak (A : Option Addr) (cap : Nat) (fs : List Int) (w : World) (hA0 : ArgT w 1 intc A cap fs) (hn : fs.length ≤ 9223372036854775807) : Calls Tryz.prog 15 #[.slice A fs.length cap] w fun e w' => ∃ b v l F G xv yv, e = .returned (.pointer (some ⟨b, 0, none⟩)) ∧ Blk w' b [.pointer (some ⟨l, 0, none⟩), .pointer (some ⟨v, 0, none⟩), .pointer xv, .pointer yv, .int .i64 0] 35 ∧ VotT F w' v VS.zero ∧ Led G w' l (newX (msk24 (fs.take 10)) 10) [] ∧ Keep none_ w w' ∧ w.heap.size ≤ b ∧ (∀ q, F q → w.heap.size ≤ q ∧ q ≠ b) ∧ (∀ q, G q → w.heap.size ≤ q ∧ q ≠ b) ∧ (∀ q, F q → ¬ G q) := by
 have hA := hA0
 have hK0 : Keep none_ w w := Keep.refl _ _
 have hzhK0 := Keep.size hK0
 refine enterV Tryz.func15 rfl [.slice A fs.length cap] 58 rfl rfl rfl ?_
 refine V_pick [(0, .slice A fs.length cap)] rfl ?_
 refine V_seq ?_
 refine V_region ?_
 refine OI_static 1 [(0, .slice A fs.length cap)] (by kernel_rfl) ?_
 refine OI_end rfl ?_
 refine X_then ?_
 refine V_seq ?_
 refine V_region ?_
 refine OI_static 1 [(0, .slice A fs.length cap), (3, .slice none 0 0)] (by kernel_rfl) ?_
 refine OI_end rfl ?_
 refine X_then ?_
 refine V_seq ?_
 refine V_seq ?_
 refine V_region ?_
 refine OI_static 1 [(0, .slice A fs.length cap), (3, .slice none 0 0), (4, nt 0)] (by kernel_rfl) ?_
 refine OI_end rfl ?_
 refine X_then ?_
 refine V_block ?_
 refine V_pick [(0, .slice A fs.length cap), (3, .slice none 0 0), (4, nt 0)] rfl ?_
 refine V_loop (fun k wI e => ∃ i : Nat, ∃ A2 : Option Addr, ∃ cap2 : Nat, ∃ ms : List Int, (k + i = min fs.length 10) ∧ (ms = msk24 (fs.take i)) ∧ (SlT wI 1 intc A2 cap2 ms) ∧ (∀ q, inA A2 q → w.heap.size ≤ q) ∧ Keep none_ w wI ∧ e = [(0, .slice A fs.length cap), (3, .slice A2 ms.length cap2), (4, nt ((i : Nat) : Int))]) (min fs.length 10) ⟨0, none, 0, [], by omega, rfl, SlT.nil _ _ _, fun q h => (inA_none h).elim, Keep.refl _ _, rfl⟩ ?_
 rintro k2 w1 _ ⟨i, A2, cap2, ms, hki, hms, hA2, ow2, hk3, rfl⟩
 have hsz4 := Keep.size hk3
 replace hA := ArgT.keep0 hA hk3
 replace hK0 := Keep.tr hK0 (Keep.ofNone hk3)
 have hzhk3 := Keep.size hk3
 have lt2 := SlT.lt hA2
 have hml : ms.length = i := by rw [hms]; simp [msk24]; omega
 refine V_seq ?_
 refine V_seq ?_
 refine V_region ?_
 refine OI_static 5 [(0, .slice A fs.length cap), (3, .slice A2 ms.length cap2), (4, nt ((i : Nat) : Int)), (14, .bool (decide (((i : Nat) : Int) < ((fs.length : Nat) : Int))))] (by kernel_rfl) ?_
 by_cases hg5 : ((i : Nat) : Int) < ((fs.length : Nat) : Int)
 ·
  refine OI_eq [(0, .slice A fs.length cap), (3, .slice A2 ms.length cap2), (4, nt ((i : Nat) : Int)), (14, .bool true)] (by first | simp [hg5] | rfl) ?_
  refine OI_static 8 [(0, .slice A fs.length cap), (3, .slice A2 ms.length cap2), (4, nt ((i : Nat) : Int)), (15, nt ((i : Nat) : Int)), (16, .bool (decide (((i : Nat) : Int) < 10))), (17, .bool (decide (((i : Nat) : Int) < 10)))] (by kernel_rfl) ?_
  refine OI_end rfl ?_
  refine X_then ?_
  refine V_if (((i : Nat) : Int) < 10) (by kernel_rfl) (fun hc6 => ?_) (fun hc6 => ?_)
  ·
   refine V_skip ?_
   refine X_then ?_
   refine V_seq ?_
   refine V_block ?_
   refine V_region ?_
   refine OI_static 3 [(0, .slice A fs.length cap), (4, nt ((i : Nat) : Int)), (15, nt ((i : Nat) : Int)), (16, .bool (decide (((i : Nat) : Int) < 10))), (20, .slice A2 ms.length cap2), (21, .slice A fs.length cap), (22, nt ((i : Nat) : Int))] (by kernel_rfl) ?_
   obtain ⟨b7, o7, L7, rfl, hat7⟩ := ArgT.open_ hA (by first | omega | (simp only [List.length_map]; omega) | (simp; done) | (simp; omega))
   have hb7lt0 := ArgT.lt hA0 (by first | omega | (simp only [List.length_map]; omega) | (simp; done) | (simp; omega))
   have hb7lt := hat7.blk.lt
   refine OI_pure (some 23) (.indexAddr 28 (.tmp 21) (.tmp 22)) (by kernel_rfl) (pure_idxN (b := b7) (o := o7) (len := fs.length) (cap := cap) (kd := .i64) (j := i) (E := 3) (sz := 1) (by_ := 8) (by kernel_rfl) (by kernel_rfl) (by kernel_rfl) (by omega)) ?_
   obtain ⟨x8, hx9⟩ : ∃ x, fs[i]? = some x := ⟨_, List.getElem?_eq_getElem (by first | omega | (simp only [List.length_map]; omega))⟩
   refine OI_cellR 3 (.tmp 23) (o7 + i * 1) (nt x8) (some 24) (by kernel_rfl) (by kernel_rfl) hat7.blk (m := 1) (by kernel_rfl) (AtR.cell0 hat7 (es_at hx9) rfl) ?_
   refine OI_static 6 [(0, .slice (some ⟨b7, o7, none⟩) fs.length cap), (4, nt ((i : Nat) : Int)), (15, nt ((i : Nat) : Int)), (16, .bool (decide (((i : Nat) : Int) < 10))), (20, .slice A2 ms.length cap2), (25, nt (bAnd x8 16777215))] (by kernel_rfl) ?_
   refine OI_slit (E := 3) (zv := nt 0) (sz := 1) (by_ := 8) 28 1 #[(0, (Operand.tmp 25))] [nt (bAnd x8 16777215)] [nt (bAnd x8 16777215)] (some 26) (by kernel_rfl) (by kernel_rfl) (by kernel_rfl) (by omega) rfl (by omega) (by intro v hv; simp only [List.mem_cons, List.not_mem_nil, or_false] at hv; rcases hv with rfl <;> rfl) (by kernel_rfl) rfl ?_
   intro b10 w10 e10 hb10 k10 z10
   have hsz11 := Keep.size k10
   replace hat7 := hat7.keep k10 (fun f => f)
   replace hA2 := SlT.keep0 hA2 k10
   replace hK0 := Keep.tr hK0 (Keep.ofNone k10)
   replace hk3 := Keep.tr hk3 (Keep.ofNone k10)
   have hb10lt := hb10.lt
   refine OI_append (t := 28) (at2 := 28) (E := 3) (E2 := 3) (sz := 1) (by_ := 8) (zv := nt 0) (m := ms.length) (k := 1) (.tmp 20) (.tmp 26) (.slice A2 ms.length cap2) (.slice (some ⟨b10, 0, none⟩) 1 1) (some 27) (by kernel_rfl) (by kernel_rfl) (by kernel_rfl) (by kernel_rfl) (by kernel_rfl) (by kernel_rfl) (by kernel_rfl) (SlT.slr hA2) (slr_one hb10 (intc_len (bAnd x8 16777215))) (intc_one (bAnd x8 16777215)) (by first | omega | (simp only [List.length_nil]; omega)) (by omega) (by first | omega | (simp only [List.length_nil]; omega)) (by omega) ?_
   intro vv9 w12 hap
   obtain ⟨A12, cap12, rfl, hA12, hk12, own12x⟩ := app_one (f := intc) (xs := ms) (x := (bAnd x8 16777215)) (A := A2) (cap := cap2) hap (fun x _ => intc_len x) (intc_len _)
   have own12 : ∀ q, inA A12 q → w.heap.size ≤ q := fun q hq => by rcases own12x q hq with h | h; exact ow2 q h; (show w.heap.size ≤ q; omega)
   have hsz13 := Keep.size hk12
   replace hat7 := hat7.keep hk12 (fun hs => by have h1 := ow2 _ hs; have h2 := lt2 _ hs; omega)
   replace hK0 := Keep.fresh hK0 hk12 (by intro i hi hs; first | exact hs | (exfalso; have h1 := ow2 i hs; have h2 := lt2 i hs; omega) | (have h1 := ow2 i hs; have h2 := lt2 i hs; show _ ∨ _; omega))
   replace hk3 := Keep.fresh hk3 hk12 (by intro i hi hs; first | exact hs | (exfalso; have h1 := ow2 i hs; have h2 := lt2 i hs; omega) | (have h1 := ow2 i hs; have h2 := lt2 i hs; show _ ∨ _; omega))
   have lt12 := SlT.lt hA12
   refine OI_static 9 [(0, .slice (some ⟨b7, o7, none⟩) fs.length cap), (3, .slice A12 ((ms ++ [bAnd x8 16777215]).length) cap12), (4, nt ((i : Nat) : Int)), (15, nt ((i : Nat) : Int)), (16, .bool (decide (((i : Nat) : Int) < 10)))] (by kernel_rfl) ?_
   refine OI_end rfl ?_
   refine X_block ?_
   refine X_then ?_
   refine V_region ?_
   have hw14 : IntKind.i64.wrap (((i : Nat) : Int) + 1) = ((i + 1 : Nat) : Int) := (wrap64_id (by omega) (by omega)).trans (by omega)
   refine OI_static 2 [(0, .slice (some ⟨b7, o7, none⟩) fs.length cap), (3, .slice A12 ((ms ++ [bAnd x8 16777215]).length) cap12), (15, nt ((i : Nat) : Int)), (16, .bool (decide (((i : Nat) : Int) < 10))), (19, nt (IntKind.i64.wrap (((i : Nat) : Int) + 1)))] (by kernel_rfl) ?_
   refine OI_eq [(0, .slice (some ⟨b7, o7, none⟩) fs.length cap), (3, .slice A12 ((ms ++ [bAnd x8 16777215]).length) cap12), (15, nt ((i : Nat) : Int)), (16, .bool (decide (((i : Nat) : Int) < 10))), (19, nt ((i + 1 : Nat) : Int))] (by rw [hw14]) ?_
   refine OI_static 3 [(0, .slice (some ⟨b7, o7, none⟩) fs.length cap), (3, .slice A12 ((ms ++ [bAnd x8 16777215]).length) cap12), (4, nt ((i + 1 : Nat) : Int)), (15, nt ((i : Nat) : Int)), (16, .bool (decide (((i : Nat) : Int) < 10)))] (by kernel_rfl) ?_
   refine OI_end rfl ?_
   exact V_again (k2 - 1) (by omega) [(0, .slice (some ⟨b7, o7, none⟩) fs.length cap), (3, .slice A12 ((ms ++ [bAnd x8 16777215]).length) cap12), (4, nt ((i + 1 : Nat) : Int))] rfl ⟨i + 1, A12, cap12, ms ++ [bAnd x8 16777215], by omega, by rw [msk24_step hx9, ← hms], hA12, own12, hk3, rfl⟩
  ·
   refine V_exit ?_
   refine X_exit_then ?_
   refine X_exit_then ?_
   refine X_exit_here ?_
   refine X_then ?_
   refine V_seq ?_
   refine V_region ?_
   refine OI_static 1 [(3, .slice A2 ms.length cap2), (29, .slice A2 ms.length cap2)] (by kernel_rfl) ?_
   have hie : i = min fs.length 10 := by omega
   have htk : fs.take i = fs.take 10 := by rw [hie]; rcases Nat.le_total fs.length 10 with h9 | h9; (rw [Nat.min_eq_left h9, List.take_length, List.take_of_length_le h9]); rw [Nat.min_eq_right h9]
   rw [htk] at hms
   have hok9 := msk24_ok (fs := fs.take 10) (by rw [List.length_take]; omega)
   rw [← hms] at hok9
   refine OI_call { callee := (Callee.value (Operand.func 29)), args := #[(Operand.tmp 29)], argTypes := #[28] } 29 #[.slice A2 ms.length cap2] (some 30) (by kernel_rfl) (by kernel_rfl) (by kernel_rfl) (new_ok A2 cap2 ms _ (SlT.arg hA2) (by omega) hok9) ?_
   rintro _ w15 ⟨l17, F18, rfl, ho19, hk16, hge20⟩
   refine ⟨_, rfl, ?_⟩
   have hsz21 := Keep.size hk16
   replace hA := ArgT.keep0 hA hk16
   replace hA2 := SlT.keep0 hA2 hk16
   replace hK0 := Keep.tr hK0 (Keep.ofNone hk16)
   have own22 : ∀ q, F18 q → w1.heap.size ≤ q := fun q hq => by have h1 := hge20 q hq; omega
   have lt23 := Led.lt ho19
   have dis24 : ∀ q, F18 q → ¬ inA A2 q := fun q h1 h2 => by have h3 := hge20 q h1; have h4 := lt2 q h2; omega
   have hl17lt : l17 < w15.heap.size := Led.lt ho19 _ (Led.at_ ho19)
   have hl17ge := hge20 _ (Led.at_ ho19)
   refine OI_static 7 [(3, .slice A2 ms.length cap2), (5, pt l17), (6, nt 0)] (by kernel_rfl) ?_
   refine OI_end rfl ?_
   refine X_then ?_
   refine V_seq ?_
   refine V_region ?_
   refine OI_static 1 [(5, pt l17), (6, nt 0), (34, .slice A2 ms.length cap2)] (by kernel_rfl) ?_
   refine OI_call { callee := (Callee.value (Operand.func 41)), args := #[(Operand.tmp 34)], argTypes := #[28] } 41 #[.slice A2 ms.length cap2] (some 35) (by kernel_rfl) (by kernel_rfl) (by kernel_rfl) (rnew6_weak A2 cap2 ms _ (SlT.arg hA2) (by omega)) ?_
   rintro _ w25 ⟨pv27, n28, rfl, hk26⟩
   refine ⟨_, rfl, ?_⟩
   have hsz29 := Keep.size hk26
   replace hA := ArgT.keep0 hA hk26
   replace hA2 := SlT.keep0 hA2 hk26
   replace hK0 := Keep.tr hK0 (Keep.ofNone hk26)
   replace ho19 := Led.keep ho19 hk26 (fun _ _ f => f)
   refine OI_static 7 [(5, pt l17), (6, nt 0), (7, .pointer pv27)] (by kernel_rfl) ?_
   refine OI_end rfl ?_
   refine X_then ?_
   refine V_seq ?_
   refine V_region ?_
   refine OI_static 1 [(5, pt l17), (6, nt 0), (7, .pointer pv27), (38, pt l17)] (by kernel_rfl) ?_
   refine OI_call { callee := (Callee.value (Operand.func 42)), args := #[], argTypes := #[] } 42 #[] (some 39) (by kernel_rfl) (by kernel_rfl) (by kernel_rfl) (new_votT _) ?_
   rintro _ w32 ⟨g34, F35, rfl, ho36, hk33, hge37⟩
   refine ⟨_, rfl, ?_⟩
   have hsz38 := Keep.size hk33
   replace hA := ArgT.keep0 hA hk33
   replace hA2 := SlT.keep0 hA2 hk33
   replace hK0 := Keep.tr hK0 (Keep.ofNone hk33)
   replace ho19 := Led.keep ho19 hk33 (fun _ _ f => f)
   have own39 : ∀ q, F35 q → w25.heap.size ≤ q := fun q hq => by have h1 := hge37 q hq; omega
   have lt40 := VotT.lt ho36
   have dis41 : ∀ q, F35 q → ¬ inA A2 q := fun q h1 h2 => by have h3 := hge37 q h1; have h4 := lt2 q h2; omega
   have dis42 : ∀ q, F35 q → ¬ F18 q := fun q h1 h2 => by have h3 := hge37 q h1; have h4 := lt23 q h2; omega
   have hg34lt : g34 < w32.heap.size := VotT.lt ho36 _ (VotT.at_ ho36)
   have hg34ge := hge37 _ (VotT.at_ ho36)
   refine OI_static 3 [(5, pt l17), (6, nt 0), (38, pt l17), (39, pt g34), (40, .pointer pv27)] (by kernel_rfl) ?_
   refine OI_call { callee := (Callee.value (Operand.func 43)), args := #[], argTypes := #[] } 43 #[] (some 41) (by kernel_rfl) (by kernel_rfl) (by kernel_rfl) (rnew11_weak _) ?_
   rintro _ w43 ⟨pv45, rfl, hk44⟩
   refine ⟨_, rfl, ?_⟩
   have hsz46 := Keep.size hk44
   replace hA := ArgT.keep0 hA hk44
   replace hA2 := SlT.keep0 hA2 hk44
   replace hK0 := Keep.tr hK0 (Keep.ofNone hk44)
   replace ho19 := Led.keep ho19 hk44 (fun _ _ f => f)
   replace ho36 := VotT.keep ho36 hk44 (fun _ _ f => f)
   refine OI_static 5 [(5, pt l17), (6, nt 0), (42, .agg #[pt l17, pt g34, .pointer pv27, .pointer pv45, nt 0])] (by kernel_rfl) ?_
   refine OI_box 35 (.tmp 42) (.agg #[pt l17, pt g34, .pointer pv27, .pointer pv45, nt 0]) [pt l17, pt g34, .pointer pv27, .pointer pv45, nt 0] (some 43) (by kernel_rfl) (by kernel_rfl) (by kernel_rfl) ?_
   intro b47 w47 e47 hb47 k47 z47
   have hsz48 := Keep.size k47
   replace hA := ArgT.keep0 hA k47
   replace hA2 := SlT.keep0 hA2 k47
   replace hK0 := Keep.tr hK0 (Keep.ofNone k47)
   replace ho19 := Led.keep ho19 k47 (fun _ _ f => f)
   replace ho36 := VotT.keep ho36 k47 (fun _ _ f => f)
   have hb47lt := hb47.lt
   refine OI_static 7 [(5, pt l17), (6, nt 0), (9, pt b47)] (by kernel_rfl) ?_
   refine OI_end rfl ?_
   refine X_then ?_
   refine V_seq ?_
   refine V_seq ?_
   refine V_region ?_
   refine OI_static 10 [(9, pt b47), (50, .bool false), (53, .pointer (some ⟨b47, 1, none⟩))] (by kernel_rfl) ?_
   refine OI_cell 31 (.tmp 53) 1 (pt g34) (some 54) (by kernel_rfl) (by kernel_rfl) hb47 (m := 1) (by kernel_rfl) rfl ?_
   refine OI_static 13 [(9, pt b47), (56, .bool false)] (by kernel_rfl) ?_
   refine OI_end rfl ?_
   refine X_then ?_
   refine V_false rfl ?_
   refine V_skip ?_
   refine X_then ?_
   refine V_seq ?_
   refine V_region ?_
   refine OI_static 2 [(2, pt b47)] (by kernel_rfl) ?_
   refine OI_end rfl ?_
   refine X_then ?_
   refine V_ret ?_
   exact X_return _ rfl ⟨b47, g34, l17, F35, F18, pv27, pv45, rfl, hb47, ho36, by rw [hms] at ho19; exact ho19, hK0, by omega, fun q hq => ⟨by have h1 := own39 q hq; omega, by have h1 := lt40 q hq; omega⟩, fun q hq => ⟨by have h1 := own22 q hq; omega, by have h1 := lt23 q hq; omega⟩, dis42⟩
 ·
  refine OI_eq [(0, .slice A fs.length cap), (3, .slice A2 ms.length cap2), (4, nt ((i : Nat) : Int)), (14, .bool false)] (by first | simp [hg5] | rfl) ?_
  refine OI_static 8 [(0, .slice A fs.length cap), (3, .slice A2 ms.length cap2), (4, nt ((i : Nat) : Int)), (15, undef), (16, undef), (17, .bool false)] (by kernel_rfl) ?_
  refine OI_end rfl ?_
  refine X_then ?_
  refine V_false rfl ?_
  refine V_exit ?_
  refine X_exit_then ?_
  refine X_exit_then ?_
  refine X_exit_here ?_
  refine X_then ?_
  refine V_seq ?_
  refine V_region ?_
  refine OI_static 1 [(3, .slice A2 ms.length cap2), (29, .slice A2 ms.length cap2)] (by kernel_rfl) ?_
  have hie : i = min fs.length 10 := by omega
  have htk : fs.take i = fs.take 10 := by rw [hie]; rcases Nat.le_total fs.length 10 with h9 | h9; (rw [Nat.min_eq_left h9, List.take_length, List.take_of_length_le h9]); rw [Nat.min_eq_right h9]
  rw [htk] at hms
  have hok9 := msk24_ok (fs := fs.take 10) (by rw [List.length_take]; omega)
  rw [← hms] at hok9
  refine OI_call { callee := (Callee.value (Operand.func 29)), args := #[(Operand.tmp 29)], argTypes := #[28] } 29 #[.slice A2 ms.length cap2] (some 30) (by kernel_rfl) (by kernel_rfl) (by kernel_rfl) (new_ok A2 cap2 ms _ (SlT.arg hA2) (by omega) hok9) ?_
  rintro _ w49 ⟨l51, F52, rfl, ho53, hk50, hge54⟩
  refine ⟨_, rfl, ?_⟩
  have hsz55 := Keep.size hk50
  replace hA := ArgT.keep0 hA hk50
  replace hA2 := SlT.keep0 hA2 hk50
  replace hK0 := Keep.tr hK0 (Keep.ofNone hk50)
  have own56 : ∀ q, F52 q → w1.heap.size ≤ q := fun q hq => by have h1 := hge54 q hq; omega
  have lt57 := Led.lt ho53
  have dis58 : ∀ q, F52 q → ¬ inA A2 q := fun q h1 h2 => by have h3 := hge54 q h1; have h4 := lt2 q h2; omega
  have hl51lt : l51 < w49.heap.size := Led.lt ho53 _ (Led.at_ ho53)
  have hl51ge := hge54 _ (Led.at_ ho53)
  refine OI_static 7 [(3, .slice A2 ms.length cap2), (5, pt l51), (6, nt 0)] (by kernel_rfl) ?_
  refine OI_end rfl ?_
  refine X_then ?_
  refine V_seq ?_
  refine V_region ?_
  refine OI_static 1 [(5, pt l51), (6, nt 0), (34, .slice A2 ms.length cap2)] (by kernel_rfl) ?_
  refine OI_call { callee := (Callee.value (Operand.func 41)), args := #[(Operand.tmp 34)], argTypes := #[28] } 41 #[.slice A2 ms.length cap2] (some 35) (by kernel_rfl) (by kernel_rfl) (by kernel_rfl) (rnew6_weak A2 cap2 ms _ (SlT.arg hA2) (by omega)) ?_
  rintro _ w59 ⟨pv61, n62, rfl, hk60⟩
  refine ⟨_, rfl, ?_⟩
  have hsz63 := Keep.size hk60
  replace hA := ArgT.keep0 hA hk60
  replace hA2 := SlT.keep0 hA2 hk60
  replace hK0 := Keep.tr hK0 (Keep.ofNone hk60)
  replace ho53 := Led.keep ho53 hk60 (fun _ _ f => f)
  refine OI_static 7 [(5, pt l51), (6, nt 0), (7, .pointer pv61)] (by kernel_rfl) ?_
  refine OI_end rfl ?_
  refine X_then ?_
  refine V_seq ?_
  refine V_region ?_
  refine OI_static 1 [(5, pt l51), (6, nt 0), (7, .pointer pv61), (38, pt l51)] (by kernel_rfl) ?_
  refine OI_call { callee := (Callee.value (Operand.func 42)), args := #[], argTypes := #[] } 42 #[] (some 39) (by kernel_rfl) (by kernel_rfl) (by kernel_rfl) (new_votT _) ?_
  rintro _ w66 ⟨g68, F69, rfl, ho70, hk67, hge71⟩
  refine ⟨_, rfl, ?_⟩
  have hsz72 := Keep.size hk67
  replace hA := ArgT.keep0 hA hk67
  replace hA2 := SlT.keep0 hA2 hk67
  replace hK0 := Keep.tr hK0 (Keep.ofNone hk67)
  replace ho53 := Led.keep ho53 hk67 (fun _ _ f => f)
  have own73 : ∀ q, F69 q → w59.heap.size ≤ q := fun q hq => by have h1 := hge71 q hq; omega
  have lt74 := VotT.lt ho70
  have dis75 : ∀ q, F69 q → ¬ inA A2 q := fun q h1 h2 => by have h3 := hge71 q h1; have h4 := lt2 q h2; omega
  have dis76 : ∀ q, F69 q → ¬ F52 q := fun q h1 h2 => by have h3 := hge71 q h1; have h4 := lt57 q h2; omega
  have hg68lt : g68 < w66.heap.size := VotT.lt ho70 _ (VotT.at_ ho70)
  have hg68ge := hge71 _ (VotT.at_ ho70)
  refine OI_static 3 [(5, pt l51), (6, nt 0), (38, pt l51), (39, pt g68), (40, .pointer pv61)] (by kernel_rfl) ?_
  refine OI_call { callee := (Callee.value (Operand.func 43)), args := #[], argTypes := #[] } 43 #[] (some 41) (by kernel_rfl) (by kernel_rfl) (by kernel_rfl) (rnew11_weak _) ?_
  rintro _ w77 ⟨pv79, rfl, hk78⟩
  refine ⟨_, rfl, ?_⟩
  have hsz80 := Keep.size hk78
  replace hA := ArgT.keep0 hA hk78
  replace hA2 := SlT.keep0 hA2 hk78
  replace hK0 := Keep.tr hK0 (Keep.ofNone hk78)
  replace ho53 := Led.keep ho53 hk78 (fun _ _ f => f)
  replace ho70 := VotT.keep ho70 hk78 (fun _ _ f => f)
  refine OI_static 5 [(5, pt l51), (6, nt 0), (42, .agg #[pt l51, pt g68, .pointer pv61, .pointer pv79, nt 0])] (by kernel_rfl) ?_
  refine OI_box 35 (.tmp 42) (.agg #[pt l51, pt g68, .pointer pv61, .pointer pv79, nt 0]) [pt l51, pt g68, .pointer pv61, .pointer pv79, nt 0] (some 43) (by kernel_rfl) (by kernel_rfl) (by kernel_rfl) ?_
  intro b81 w81 e81 hb81 k81 z81
  have hsz82 := Keep.size k81
  replace hA := ArgT.keep0 hA k81
  replace hA2 := SlT.keep0 hA2 k81
  replace hK0 := Keep.tr hK0 (Keep.ofNone k81)
  replace ho53 := Led.keep ho53 k81 (fun _ _ f => f)
  replace ho70 := VotT.keep ho70 k81 (fun _ _ f => f)
  have hb81lt := hb81.lt
  refine OI_static 7 [(5, pt l51), (6, nt 0), (9, pt b81)] (by kernel_rfl) ?_
  refine OI_end rfl ?_
  refine X_then ?_
  refine V_seq ?_
  refine V_seq ?_
  refine V_region ?_
  refine OI_static 10 [(9, pt b81), (50, .bool false), (53, .pointer (some ⟨b81, 1, none⟩))] (by kernel_rfl) ?_
  refine OI_cell 31 (.tmp 53) 1 (pt g68) (some 54) (by kernel_rfl) (by kernel_rfl) hb81 (m := 1) (by kernel_rfl) rfl ?_
  refine OI_static 13 [(9, pt b81), (56, .bool false)] (by kernel_rfl) ?_
  refine OI_end rfl ?_
  refine X_then ?_
  refine V_false rfl ?_
  refine V_skip ?_
  refine X_then ?_
  refine V_seq ?_
  refine V_region ?_
  refine OI_static 2 [(2, pt b81)] (by kernel_rfl) ?_
  refine OI_end rfl ?_
  refine X_then ?_
  refine V_ret ?_
  exact X_return _ rfl ⟨b81, g68, l51, F69, F52, pv61, pv79, rfl, hb81, ho70, by rw [hms] at ho53; exact ho53, hK0, by omega, fun q hq => ⟨by have h1 := own73 q hq; omega, by have h1 := lt74 q hq; omega⟩, fun q hq => ⟨by have h1 := own56 q hq; omega, by have h1 := lt57 q hq; omega⟩, dis76⟩
end Go.Al


namespace Go.Al
open Go Go.RowKit Go.Proofs
/-! ### Locks, by accounts and ids -/
theorem getC_set (a b x : Int) : ∀ (cs : List Ci), Srt cs → ∀ a' b', getC a' b' (setC a b x cs) = if a' = a ∧ b' = b then some x else getC a' b' cs
  | [], _, a', b' => by
    simp only [setC, getC]
    by_cases h : a' = a ∧ b' = b
    · rw [if_pos ⟨h.1.symm, h.2.symm⟩, if_pos h]
    · rw [if_neg (fun e => h ⟨e.1.symm, e.2.symm⟩), if_neg h]
  | c :: l, hs, a', b' => by
    have hs2 := List.pairwise_cons.1 hs
    have ih := getC_set a b x l hs2.2 a' b'
    simp only [setC]
    split
    · rename_i he
      simp only [getC]
      by_cases h : a' = a ∧ b' = b
      · rw [if_pos ⟨h.1.symm, h.2.symm⟩, if_pos h]
      · rw [if_neg (fun e => h ⟨e.1.symm, e.2.symm⟩), if_neg h, if_neg (fun e => h ⟨by omega, by omega⟩)]
    · rename_i he
      split
      · simp only [getC]
        rw [ih]
        by_cases h : a' = a ∧ b' = b
        · rw [if_pos h, if_pos h, if_neg (fun e => he ⟨by omega, by omega⟩)]
        · rw [if_neg h, if_neg h]
      · simp only [getC]
        by_cases h : a' = a ∧ b' = b
        · rw [if_pos ⟨h.1.symm, h.2.symm⟩, if_pos h]
        · rw [if_neg (fun e => h ⟨e.1.symm, e.2.symm⟩), if_neg h]
def LkOk (cs : List Ci) : Prop := Srt cs ∧ ∀ c ∈ cs, 0 < c.v ∧ c.v ≤ 1073741824
theorem LkOk.nil : LkOk [] := ⟨Srt.nil, fun c hc => by cases hc⟩
theorem setC_mem3 {a b v : Int} {y : Ci} : ∀ {cs : List Ci}, y ∈ setC a b v cs → y = ⟨a, b, v⟩ ∨ y ∈ cs
  | [], h => by simp only [setC, List.mem_singleton] at h; exact .inl h
  | x :: l, h => by
    simp only [setC] at h
    split at h
    · rcases List.mem_cons.1 h with h | h
      · exact .inl h
      · exact .inr (List.mem_cons_of_mem _ h)
    · split at h
      · rcases List.mem_cons.1 h with rfl | h
        · exact .inr (List.mem_cons_self ..)
        · exact (setC_mem3 h).imp id (List.mem_cons_of_mem _)
      · rcases List.mem_cons.1 h with h | h
        · exact .inl h
        · exact .inr h
theorem delC_mem3 {a b : Int} {y : Ci} : ∀ {cs : List Ci}, y ∈ delC a b cs → y ∈ cs
  | [], h => by simp [delC] at h
  | x :: l, h => by
    simp only [delC] at h
    split at h
    · exact List.mem_cons_of_mem _ h
    · rcases List.mem_cons.1 h with rfl | h
      · exact List.mem_cons_self ..
      · exact List.mem_cons_of_mem _ (delC_mem3 h)
theorem LkOk.lock {cs : List Ci} (h : LkOk cs) (a t n : Int) : LkOk (lockC cs a t n) := by
  unfold lockC
  split
  · split
    · exact ⟨(h.1.del a t).1, fun c hc => h.2 c (delC_mem3 hc)⟩
    · refine ⟨(Srt.set h.1).1, fun c hc => ?_⟩
      rcases setC_mem3 hc with rfl | hc
      · simp only; omega
      · exact h.2 c hc
  · exact h
theorem LkOk.raise {cs : List Ci} (h : LkOk cs) (a t n : Int) : LkOk (raiseC cs a t n) := by
  unfold raiseC
  split
  · exact h
  · exact h.lock _ _ _
theorem setC_len (a b v : Int) : ∀ cs : List Ci, (setC a b v cs).length ≤ cs.length + 1
  | [] => by simp [setC]
  | x :: l => by
    have := setC_len a b v l
    simp only [setC]
    split
    · simp
    · split
      · simp only [List.length_cons]; omega
      · simp
theorem delC_len (a b : Int) : ∀ cs : List Ci, (delC a b cs).length ≤ cs.length
  | [] => by simp [delC]
  | x :: l => by
    have := delC_len a b l
    simp only [delC]
    split <;> simp <;> omega
theorem lockC_len (cs : List Ci) (a i n : Int) : (lockC cs a i n).length ≤ cs.length + 1 := by
  unfold lockC
  split
  · split
    · have := delC_len a i cs; omega
    · exact setC_len _ _ _ _
  · omega
theorem raiseC_len (cs : List Ci) (a i n : Int) : (raiseC cs a i n).length ≤ cs.length + 1 := by
  unfold raiseC
  split
  · omega
  · exact lockC_len _ _ _ _
/-! ### What succeeds -/
theorem vote_go {xs : List Acc} {s : VS} {who ref : Int} {x : Vt} {q : PollS} (h1 : 0 ≤ who ∧ who ≤ 9) (h2 : okV x) (h3 : pollAt s ref = some q) (h4 : q.state = 0) (h5 : (s.rc who q.track).d = none) (h6 : capI x ≤ (acct xs who).free) (h7 : (GV.getC who ref s.cs).isSome = true ∨ (vrow s who q.track).length < 6) :
    voteE xs s who ref x = 0 ∧ voteS xs s who ref x = { s.setP ref.toNat { q with t := voteT s who ref x q } with cs := GV.setC who ref x s.cs } ∧ ∀ cs, voteC xs cs s who ref x = raiseC cs who q.track (capI x) := by
  have hE : voteE xs s who ref x = 0 := by
    unfold voteE
    rw [if_neg (by rintro (h9 | h9); exact h9 h1; exact h9 h2), h3]; dsimp only
    rw [if_neg (fun h9 => h9 h4), if_neg (by rw [h5]; decide), if_neg (by omega), if_neg ?_]
    rintro ⟨h8, h9⟩
    rcases h7 with h7 | h7
    · rw [h7] at h8; cases h8
    · omega
  refine ⟨hE, ?_, fun cs => ?_⟩
  · unfold voteS; rw [if_pos hE, h3]
  · unfold voteC; rw [if_pos hE, h3]
theorem del_go {xs : List Acc} {s : VS} {who t to level n : Int} (h1 : 0 ≤ who ∧ who ≤ 9) (h2 : 0 ≤ to ∧ to ≤ 9) (h3 : 0 ≤ t ∧ t ≤ 3) (h4 : 0 ≤ level ∧ level ≤ 6) (h5 : 0 ≤ n ∧ n ≤ 1073741824) (h6 : who ≠ to) (h7 : (s.rc who t).d = none) (h8 : vrow s who t = []) (h9 : n ≤ (acct xs who).free) :
    delE xs s who t to level n = 0 ∧ delS xs s who t to level n = getsS (s.setR who t { s.rc who t with d := some (DelS.mk to level n) }) to t (Wgt.mk (cvVotes n level) n) ∧ ∀ cs, delC2 xs cs s who t to level n = raiseC cs who t n := by
  have hE : delE xs s who t to level n = 0 := by
    unfold delE
    rw [if_neg (by rintro (h | h | h | h | h | h); exact h h1; exact h h2; exact h h3; exact h h4; exact h h5; exact h h6), if_neg (by rw [h7]; decide), if_neg (by rw [h8]; decide), if_neg (by omega)]
  refine ⟨hE, ?_, fun cs => ?_⟩
  · unfold delS; rw [if_pos hE]
  · unfold delC2; rw [if_pos hE]
theorem w64_id {x : Int} (h1 : -9223372036854775808 ≤ x) (h2 : x ≤ 9223372036854775807) : w64 x = x := wrap64_id (by omega) (by omega)
theorem capI_ok {x : Vt} (h : okV x) : capI x = x.a + x.n + x.s ∧ 0 ≤ capI x ∧ capI x ≤ 1073741824 := by
  have hb := h.1
  have e : capI x = x.a + x.n + x.s := by unfold capI; rw [w64_id (x := x.a + x.n) (by omega) (by omega), w64_id (by omega) (by omega)]
  rw [e]; omega
end Go.Al


namespace Go.Al
open Go Go.RowKit Go.Proofs
/-! ### What is lent counts -/
def knX : List Acc := newX [0, 10, 10] 10
def knV : Vt := ⟨1, true, 2, 10, 0, 0⟩
def knS1 : VS := openS VS.zero 0 1
def knS2 : VS := delS knX knS1 2 1 1 1 10
def knC2 : List Ci := delC2 knX [] knS1 2 1 1 1 10
def knS3 : VS := voteS knX knS2 1 0 knV
def knC3 : List Ci := voteC knX knC2 knS2 1 0 knV
theorem kn1 : openE VS.zero 0 1 = 0 := by kernel_rfl
theorem kn2 : delE knX knS1 2 1 1 1 10 = 0 := by kernel_rfl
theorem kn3 : voteE knX knS2 1 0 knV = 0 := by kernel_rfl
theorem kn4 : tallyT knS3 0 = ⟨30, 0, 20⟩ := by kernel_rfl
theorem kn0 : newX (msk24 ([0, 10, 10].take 10)) 10 = knX := by kernel_rfl
theorem kn5 : knC2.length < 100000 := by rw [show knC2.length = 1 by kernel_rfl]; decide

set_option maxRecDepth 10000 in
theorem known_spec (w : World) : Calls Tryz.prog 22 #[] w fun e w' => e = .returned (.bool true) ∧ Keep none_ w w' := by
 have hK0 : Keep none_ w w := Keep.refl _ _
 have hzhK0 := Keep.size hK0
 refine enterV Tryz.func22 rfl [] 48 rfl rfl rfl ?_
 refine V_pick [] rfl ?_
 refine V_seq ?_
 refine V_region ?_
 refine OI_static 1 [] (by kernel_rfl) ?_
 refine OI_end rfl ?_
 refine X_then ?_
 refine V_seq ?_
 refine V_region ?_
 refine OI_slit (E := 3) (zv := nt 0) (sz := 1) (by_ := 8) 28 3 #[(0, (Operand.const (Value.int IntKind.i64 0))), (1, (Operand.const (Value.int IntKind.i64 10))), (2, (Operand.const (Value.int IntKind.i64 10)))] [nt 0, nt 10, nt 10] [nt 0, nt 10, nt 10] (some 5) (by kernel_rfl) (by kernel_rfl) (by kernel_rfl) (by omega) rfl (by omega) (by intro v hv; simp only [List.mem_cons, List.not_mem_nil, or_false] at hv; rcases hv with rfl | rfl | rfl <;> rfl) (by kernel_rfl) rfl ?_
 intro b1 w1 e1 hb1 k1 z1
 have hsz2 := Keep.size k1
 replace hK0 := Keep.tr hK0 (Keep.ofNone k1)
 have hb1lt := hb1.lt
 refine OI_call { callee := (Callee.value (Operand.func 15)), args := #[(Operand.tmp 5)], argTypes := #[28] } 15 #[.slice (some ⟨b1, 0, none⟩) 3 3] (some 6) (by kernel_rfl) (by kernel_rfl) (by kernel_rfl) (begin_weak (some ⟨b1, 0, none⟩) 3 [0, 10, 10] _ (slt_blk (xs := [0, 10, 10]) (f := intc) hb1 (fun _ => rfl) rfl).arg (by simp)) ?_
 rintro _ w5 ⟨b7, v8, l9, F10, G11, xv12, yv13, rfl, hb14, ho15, hl16, hk6, hge17, hF18, hG19, hd20⟩
 refine ⟨_, rfl, ?_⟩
 have hsz21 := Keep.size hk6
 replace hb1 := hb1.keep hk6 (fun f => f)
 replace hK0 := Keep.tr hK0 (Keep.ofNone hk6)
 have hb7lt := hb14.lt
 have own22 : ∀ q, F10 q → w1.heap.size ≤ q ∧ q ≠ b1 ∧ q ≠ b7 := fun q hq => by have h1 := hF18 q hq; omega
 have lt23 := VotT.lt ho15
 have hb7lt := hb14.lt
 have own24 : ∀ q, G11 q → w1.heap.size ≤ q ∧ q ≠ b1 ∧ q ≠ b7 := fun q hq => by have h1 := hG19 q hq; omega
 have lt25 := Led.lt hl16
 replace hl16 : Led G11 w5 l9 knX ([] : List Ci) := by rw [kn0] at hl16; exact hl16
 refine OI_static 3 [(1, pt b7)] (by kernel_rfl) ?_
 refine OI_end rfl ?_
 refine X_then ?_
 refine V_seq ?_
 refine V_seq ?_
 refine V_region ?_
 refine OI_static 2 [(1, pt b7), (8, .bool false)] (by kernel_rfl) ?_
 refine OI_end rfl ?_
 refine X_then ?_
 refine V_false rfl ?_
 refine V_skip ?_
 refine X_then ?_
 refine V_seq ?_
 refine V_region ?_
 refine OI_static 3 [(1, pt b7), (11, .pointer (some ⟨b7, 1, none⟩))] (by kernel_rfl) ?_
 refine OI_cell 31 (.tmp 11) 1 (pt v8) (some 12) (by kernel_rfl) (by kernel_rfl) hb14 (m := 1) (by kernel_rfl) rfl ?_
 refine OI_call { callee := (Callee.value (Operand.func 16)), args := #[(Operand.tmp 12), (Operand.const (Value.int IntKind.i64 0)), (Operand.const (Value.int IntKind.i64 1))], argTypes := #[31, 3, 3] } 16 #[pt v8, nt 0, nt 1] (some 13) (by kernel_rfl) (by kernel_rfl) (by kernel_rfl) (open_specT F10 v8 VS.zero 0 1 _ ho15) ?_
 rintro _ w28 ⟨rfl, ⟨F30, ho31, hfr32⟩, hk29⟩
 refine ⟨_, rfl, ?_⟩
 have hsz33 := Keep.size hk29
 replace hb14 := hb14.keep hk29 (fun hs => by have h1 := own22 _ hs; have h2 := lt23 _ hs; omega)
 replace hK0 := Keep.fresh hK0 hk29 (by intro i hi hs; first | exact hs | (exfalso; have h1 := own22 i hs; have h2 := lt23 i hs; omega) | (have h1 := own22 i hs; have h2 := lt23 i hs; show _ ∨ _; omega))
 replace hl16 := Led.keep hl16 hk29 (fun q hq hs => hd20 q hs hq)
 have own35 : ∀ q, F30 q → w1.heap.size ≤ q ∧ q ≠ b7 := fun q hq => by rcases hfr32 q hq with h | h; (have h1 := own22 q h; have h2 := lt23 q h; omega); omega
 have lt34 := VotT.lt ho31
 have dis36 : ∀ q, F30 q → ¬ G11 q := fun q h1 h2 => by rcases hfr32 q h1 with h | h; exact hd20 q h h2; (have h4 := lt25 q h2; omega)
 replace ho31 : VotT F30 w28 v8 knS1 := by rw [show openS VS.zero 0 1 = knS1 from rfl] at ho31; exact ho31
 refine OI_pick [(1, pt b7), (13, nt (openE VS.zero 0 1))] (by kernel_rfl) ?_
 refine OI_eq [(1, pt b7), (13, nt 0)] (by rw [kn1]) ?_
 refine OI_static 6 [(1, pt b7), (2, nt 0)] (by kernel_rfl) ?_
 refine OI_end rfl ?_
 refine X_then ?_
 refine V_seq ?_
 refine V_draws (acts [8]) none_ [[0, 1, 2, 3, 4, 5, 6, 7, 8, 9]] (by kernel_rfl) (by repeat first | exact sure_body (by rintro _ _ ⟨h, _⟩; exact ⟨_, h⟩) | refine sure_then ?_ | refine sure_block ?_ | refine sure_join ?_) (by kernel_rfl) ?_
 intro w38 hk37 he39 L hL40
 have hsz41 := Keep.size hk37
 replace hb14 := hb14.keep hk37 (fun f => f)
 replace hK0 := Keep.tr hK0 (Keep.ofNone hk37)
 replace hl16 := Led.keep hl16 hk37 (fun _ _ f => f)
 replace ho31 := VotT.keep ho31 hk37 (fun _ _ f => f)
 have qhb14 := hb14
 have K42 : Keep none_ w38 w38 := Keep.refl _ _
 obtain rfl := List.mem_singleton.1 hL40
 refine GI_static [3, 4, 5, 6, 7, 8, 9] [(1, pt b7), (2, nt 0), (16, .pointer (some ⟨b7, 1, none⟩))] (by kernel_rfl) ?_
 refine GI_cell 31 (.tmp 16) 1 (pt v8) (some 17) (by kernel_rfl) (by kernel_rfl) (by kernel_rfl) qhb14 (fun f => f) (m := 1) (by kernel_rfl) rfl ?_
 refine GI_static [7, 8, 9] [(1, pt b7), (2, nt 0), (17, pt v8), (20, pt b7)] (by kernel_rfl) ?_
 refine GI_cell 30 (.tmp 20) 0 (pt l9) (some 21) (by kernel_rfl) (by kernel_rfl) (by kernel_rfl) qhb14 (fun f => f) (m := 1) (by kernel_rfl) rfl ?_
 refine GI_call0 { callee := (Callee.value (Operand.func 17)), args := #[(Operand.tmp 17), (Operand.tmp 21), (Operand.const (Value.int IntKind.i64 2)), (Operand.const (Value.int IntKind.i64 1)), (Operand.const (Value.int IntKind.i64 1)), (Operand.const (Value.int IntKind.i64 1)), (Operand.const (Value.int IntKind.i64 10))], argTypes := #[31, 30, 3, 3, 3, 3, 3] } 17 #[pt v8, pt l9, nt 2, nt 1, nt 1, nt 1, nt 10] (some 22) (by kernel_rfl) (by kernel_rfl) (by kernel_rfl) (by kernel_rfl) (by kernel_rfl) (delegate_spec F30 G11 v8 l9 knS1 knX ([] : List Ci) 2 1 1 1 10 _ ho31 hl16 dis36 (by first | decide | exact kn5)) ?_
 rintro _ w45 ⟨rfl, ⟨F47, F50, ho48, ho51, hfr49, hfr52, hdis53⟩, hk46⟩
 refine ⟨_, rfl, ?_⟩
 have hsz54 := Keep.size hk46
 replace hb14 := hb14.keep hk46 (fun hs => by rcases hs with hs | hs; (have u0 := own35 _ hs; have u1 := lt34 _ hs; omega); (have u0 := own24 _ hs; have u1 := lt25 _ hs; omega))
 replace hK0 := Keep.fresh hK0 hk46 (by intro i hi hs; first | exact hs | (rcases hs with hs | hs; (have u0 := own35 i hs; have u1 := lt34 i hs; omega); (have u0 := own24 i hs; have u1 := lt25 i hs; omega)))
 have own56 : ∀ q, F47 q → w1.heap.size ≤ q ∧ q ≠ b7 := fun q hq => by rcases hfr49 q hq with h | h; (have h1 := own35 q h; have h2 := lt34 q h; omega); omega
 have lt55 := VotT.lt ho48
 have own58 : ∀ q, F50 q → w1.heap.size ≤ q ∧ q ≠ b7 := fun q hq => by rcases hfr52 q hq with h | h; (have h1 := own24 q h; have h2 := lt25 q h; omega); omega
 have lt57 := Led.lt ho51
 replace ho48 : VotT F47 w45 v8 knS2 := by rw [show delS knX knS1 2 1 1 1 10 = knS2 from rfl] at ho48; exact ho48
 replace ho51 : Led F50 w45 l9 knX knC2 := by rw [show delC2 knX ([] : List Ci) knS1 2 1 1 1 10 = knC2 from rfl] at ho51; exact ho51
 refine GI_pick [(1, pt b7), (2, nt 0), (22, nt (delE knX knS1 2 1 1 1 10))] (by kernel_rfl) ?_
 refine GI_eq [(1, pt b7), (2, nt 0), (22, nt 0)] (by rw [kn2]) ?_
 refine GI_static [] [(1, pt b7), (2, nt 0), (3, nt 0)] (by kernel_rfl) ?_
 refine GI_end ?_
 refine X_then ?_
 refine V_seq ?_
 refine V_draws (acts [9]) none_ [[0, 1, 2, 3, 4, 5, 6, 7, 8, 9, 10]] (by kernel_rfl) (by repeat first | exact sure_body (by rintro _ _ ⟨h, _⟩; exact ⟨_, h⟩) | refine sure_then ?_ | refine sure_block ?_ | refine sure_join ?_) (by kernel_rfl) ?_
 intro w60 hk59 he61 L hL62
 have hsz63 := Keep.size hk59
 replace hb14 := hb14.keep hk59 (fun f => f)
 replace hK0 := Keep.tr hK0 (Keep.ofNone hk59)
 replace ho48 := VotT.keep ho48 hk59 (fun _ _ f => f)
 replace ho51 := Led.keep ho51 hk59 (fun _ _ f => f)
 have qhb14 := hb14
 have K64 : Keep none_ w60 w60 := Keep.refl _ _
 obtain rfl := List.mem_singleton.1 hL62
 refine GI_static [3, 4, 5, 6, 7, 8, 9, 10] [(1, pt b7), (2, nt 0), (3, nt 0), (25, .pointer (some ⟨b7, 1, none⟩))] (by kernel_rfl) ?_
 refine GI_cell 31 (.tmp 25) 1 (pt v8) (some 26) (by kernel_rfl) (by kernel_rfl) (by kernel_rfl) qhb14 (fun f => f) (m := 1) (by kernel_rfl) rfl ?_
 refine GI_static [7, 8, 9, 10] [(1, pt b7), (2, nt 0), (3, nt 0), (26, pt v8), (29, pt b7)] (by kernel_rfl) ?_
 refine GI_cell 30 (.tmp 29) 0 (pt l9) (some 30) (by kernel_rfl) (by kernel_rfl) (by kernel_rfl) qhb14 (fun f => f) (m := 1) (by kernel_rfl) rfl ?_
 refine GI_static [9, 10] [(1, pt b7), (2, nt 0), (3, nt 0), (26, pt v8), (30, pt l9), (31, .agg #[nt 1, .bool true, nt 2, nt 10, nt 0, nt 0])] (by kernel_rfl) ?_
 refine GI_call0 { callee := (Callee.value (Operand.func 18)), args := #[(Operand.tmp 26), (Operand.tmp 30), (Operand.const (Value.int IntKind.i64 1)), (Operand.const (Value.int IntKind.i64 0)), (Operand.tmp 31)], argTypes := #[31, 30, 3, 3, 23] } 18 #[pt v8, pt l9, nt 1, nt 0, .agg #[nt 1, .bool true, nt 2, nt 10, nt 0, nt 0]] (some 32) (by kernel_rfl) (by kernel_rfl) (by kernel_rfl) (by kernel_rfl) (by kernel_rfl) (vote_spec F47 F50 v8 l9 knS2 knX knC2 1 0 (Vt.mk 1 true 2 10 0 0) _ ho48 ho51 hdis53 (by first | decide | exact kn5)) ?_
 rintro _ w67 ⟨rfl, ⟨F69, F72, ho70, ho73, hfr71, hfr74, hdis75⟩, hk68⟩
 refine ⟨_, rfl, ?_⟩
 have hsz76 := Keep.size hk68
 replace hb14 := hb14.keep hk68 (fun hs => by rcases hs with hs | hs; (have u0 := own56 _ hs; have u1 := lt55 _ hs; omega); (have u0 := own58 _ hs; have u1 := lt57 _ hs; omega))
 replace hK0 := Keep.fresh hK0 hk68 (by intro i hi hs; first | exact hs | (rcases hs with hs | hs; (have u0 := own56 i hs; have u1 := lt55 i hs; omega); (have u0 := own58 i hs; have u1 := lt57 i hs; omega)))
 have own78 : ∀ q, F69 q → w1.heap.size ≤ q ∧ q ≠ b7 := fun q hq => by rcases hfr71 q hq with h | h; (have h1 := own56 q h; have h2 := lt55 q h; omega); omega
 have lt77 := VotT.lt ho70
 have own80 : ∀ q, F72 q → w1.heap.size ≤ q ∧ q ≠ b7 := fun q hq => by rcases hfr74 q hq with h | h; (have h1 := own58 q h; have h2 := lt57 q h; omega); omega
 have lt79 := Led.lt ho73
 replace ho70 : VotT F69 w67 v8 knS3 := by rw [show voteS knX knS2 1 0 (Vt.mk 1 true 2 10 0 0) = knS3 from rfl] at ho70; exact ho70
 replace ho73 : Led F72 w67 l9 knX knC3 := by rw [show voteC knX knC2 knS2 1 0 (Vt.mk 1 true 2 10 0 0) = knC3 from rfl] at ho73; exact ho73
 refine GI_pick [(1, pt b7), (2, nt 0), (3, nt 0), (32, nt (voteE knX knS2 1 0 (Vt.mk 1 true 2 10 0 0)))] (by kernel_rfl) ?_
 refine GI_eq [(1, pt b7), (2, nt 0), (3, nt 0), (32, nt 0)] (by rw [show voteE knX knS2 1 0 (Vt.mk 1 true 2 10 0 0) = 0 from kn3]) ?_
 refine GI_static [] [(1, pt b7), (2, nt 0), (3, nt 0), (4, nt 0)] (by kernel_rfl) ?_
 refine GI_end ?_
 refine X_then ?_
 refine V_seq ?_
 refine V_region ?_
 refine OI_static 10 [(39, .bool true), (42, .pointer (some ⟨b7, 1, none⟩))] (by kernel_rfl) ?_
 refine OI_cell 31 (.tmp 42) 1 (pt v8) (some 43) (by kernel_rfl) (by kernel_rfl) hb14 (m := 1) (by kernel_rfl) rfl ?_
 refine OI_call { callee := (Callee.value (Operand.func 20)), args := #[(Operand.tmp 43), (Operand.const (Value.int IntKind.i64 0))], argTypes := #[31, 3] } 20 #[pt v8, nt 0] (some 44) (by kernel_rfl) (by kernel_rfl) (by kernel_rfl) (tally_spec F69 v8 knS3 0 _ (ho70).1) ?_
 rintro _ w81 ⟨rfl, hk82⟩
 refine ⟨_, rfl, ?_⟩
 have hsz83 := Keep.size hk82
 replace hK0 := Keep.tr hK0 (Keep.ofNone hk82)
 replace ho70 := VotT.keep ho70 hk82 (fun _ _ f => f)
 replace ho73 := Led.keep ho73 hk82 (fun _ _ f => f)
 refine OI_pick [(39, .bool true), (44, .agg (Tly.cells (tallyT knS3 0)).toArray)] (by kernel_rfl) ?_
 refine OI_eq [(39, .bool true), (44, .agg #[nt 30, nt 0, nt 20])] (by rw [kn4]; rfl) ?_
 refine OI_static 13 [(39, .bool true), (44, .agg #[nt 30, nt 0, nt 20]), (45, .agg #[nt 30, nt 0, nt 20])] (by kernel_rfl) ?_
 refine OI_pure (some 46) ((Op.binOp BinOp.eql 43 (Operand.tmp 44) (Operand.tmp 45) 43)) (by kernel_rfl) (pure_eql_same (xs := [nt 30, nt 0, nt 20]) (by kernel_rfl) (by kernel_rfl) (by kernel_rfl) (by kernel_rfl)) ?_
 refine OI_static 16 [(0, .bool true)] (by kernel_rfl) ?_
 refine OI_end rfl ?_
 refine X_then ?_
 refine V_ret ?_
 exact X_return (.bool true) rfl ⟨rfl, hK0⟩
end Go.Al


namespace Go.Al
open Go Go.RowKit Go.Proofs
theorem w64_eq (x : Int) : w64 x = (x + 9223372036854775808) % 18446744073709551616 - 9223372036854775808 := by
  show IntKind.i64.wrap x = _
  rw [IntKind.wrap_i64]
theorem addT_sub (t g h : Tly) : addT (subT (addT t g) g) h = addT t h := by
  unfold subT addT negT
  simp only [w64_eq, Tly.mk.injEq]
  refine ⟨?_, ?_, ?_⟩ <;> omega
theorem raise_lt {cs : List Ci} {m : Nat} (h : cs.length < m) (a t n : Int) : (raiseC cs a t n).length < m + 1 := by have := raiseC_len cs a t n; omega
theorem votes1 {n : Int} (h1 : 0 ≤ n) (h2 : n ≤ 1073741824) : cvVotes n 1 = n := by
  unfold cvVotes
  rw [if_neg (by decide), w64_id (by omega) (by omega)]; omega
theorem gets_nil {s : VS} {a t : Int} {wt : Wgt} (r0 : RecS) (h0 : s.rc a t = r0) (hv : vrow s a t = []) : getsS s a t wt = s.setR a t { r0 with got := gotW r0.got wt } := by
  unfold getsS
  rw [h0, hv]; rfl
theorem gotW_zero {v c : Int} (h1 : -9223372036854775808 ≤ v ∧ v ≤ 9223372036854775807) (h2 : -9223372036854775808 ≤ c ∧ c ≤ 9223372036854775807) : gotW ⟨0, 0⟩ ⟨v, c⟩ = ⟨v, c⟩ := by
  unfold gotW
  simp only [Int.zero_add]
  rw [w64_id h1.1 h1.2, w64_id h2.1 h2.2]
/-! ### A vote that is cast anew -/
def twS1 : VS := openS VS.zero 0 0
end Go.Al


namespace Go.Al
open Go Go.RowKit Go.Proofs
theorem gets_one {s : VS} {a t : Int} {wt : Wgt} (r0 : RecS) (c : Int × Vt) (q : PollS) (h0 : s.rc a t = r0) (hv : vrow s a t = [c]) (hp : s.ps[c.1.toNat]? = some (some q)) (hq : q.state = 0) :
    getsS s a t wt = (s.setR a t { r0 with got := gotW r0.got wt }).setP c.1.toNat { q with t := addT (subT q.t (gainT c.2 r0.got)) (gainT c.2 (gotW r0.got wt)) } := by
  unfold getsS
  rw [h0, hv]
  show retally1 _ _ _ c = _
  unfold retally1
  show (match s.ps[c.1.toNat]? with | some (some q) => _ | _ => _) = _
  rw [hp]; dsimp only
  rw [if_pos hq]; rfl
theorem cv_bnd {n level B : Int} (h1 : 0 ≤ n) (h2 : n ≤ B) (hB : B ≤ 1073741824) (h3 : 0 ≤ level ∧ level ≤ 6) : 0 ≤ cvVotes n level ∧ cvVotes n level ≤ 6 * B := by
  unfold cvVotes
  have ht : Int.tdiv n 10 = n / 10 := Int.tdiv_eq_ediv_of_nonneg h1
  rcases (by omega : level = 0 ∨ level = 1 ∨ level = 2 ∨ level = 3 ∨ level = 4 ∨ level = 5 ∨ level = 6) with rfl | rfl | rfl | rfl | rfl | rfl | rfl
  · rw [if_pos rfl, ht, w64_id (by omega) (by omega)]; omega
  all_goals (rw [if_neg (by decide), w64_id (by omega) (by omega)]; omega)
end Go.Al


namespace Go.Al
open Go Go.RowKit Go.Proofs
/-! ### A vote that is taken away -/
theorem w64_0 (x : Int) : w64 (0 + w64 x) = w64 x := by simp only [w64_eq]; omega
theorem gotW_back {v c : Int} (h1 : -9223372036854775807 ≤ v ∧ v ≤ 9223372036854775807) (h2 : -9223372036854775807 ≤ c ∧ c ≤ 9223372036854775807) : gotW ⟨v, c⟩ ⟨w64 (0 - v), w64 (0 - c)⟩ = ⟨0, 0⟩ := by
  unfold gotW
  simp only [w64_eq, Wgt.mk.injEq]
  omega
end Go.Al


namespace Go.Al
open Go Go.RowKit Go.Proofs
/-! ### What is lent on -/
def chX : List Acc := newX [0, 1000, 1000, 1000] 10
def chV : Vt := ⟨1, true, 1, 100, 0, 0⟩
def chW (n : Int) : Vt := ⟨1, false, 1, n, 0, 0⟩
def chG (n : Int) : Tly := addT Tly.zero (gainT chV ⟨n, n⟩)
def chS2 : VS := { twS1.setP 0 ⟨0, chG 0, 0, 0⟩ with cs := [⟨1, 0, chV⟩] }
def chS3 (n : Int) : VS := ((chS2.setR 2 0 ⟨some ⟨1, 1, n⟩, ⟨0, 0⟩, 0, 0⟩).setR 1 0 ⟨none, ⟨n, n⟩, 0, 0⟩).setP 0 ⟨0, chG n, 0, 0⟩
def chS4 (n m level : Int) : VS := ((chS3 n).setR 3 0 ⟨some ⟨2, level, m⟩, ⟨0, 0⟩, 0, 0⟩).setR 2 0 ⟨some ⟨1, 1, n⟩, ⟨cvVotes m level, m⟩, 0, 0⟩
def chR (n m level : Int) : RecS := joinR ⟨none, ⟨cvVotes m level, m⟩, 0, 0⟩ (w64 (0 + cvPeriod 1 8)) n 0
def chS5 (n m level : Int) : VS := (((chS4 n m level).setR 1 0 ⟨none, ⟨0, 0⟩, 0, 0⟩).setP 0 ⟨0, chG 0, 0, 0⟩).setR 2 0 (chR n m level)
def chS6 (n m level : Int) : VS := { (chS5 n m level).setP 0 ⟨0, addT (chG 0) (gainT (chW n) ⟨cvVotes m level, m⟩), 0, 0⟩ with cs := [⟨1, 0, chV⟩, ⟨2, 0, chW n⟩] }
theorem setR_over (s : VS) (i : Nat) (p : PollS) (a t b u : Int) (A B R : RecS) : VS.setR ((VS.setR (VS.setR s a t A) b u B).setP i p) a t R = VS.setR ((VS.setR s b u B).setP i p) a t R := by
  show VS.mk (s.ps.set i (some p)) s.cs (updR (updR (updR s.rc a t A) b u B) a t R) = VS.mk (s.ps.set i (some p)) s.cs (updR (updR s.rc b u B) a t R)
  have h : updR (updR (updR s.rc a t A) b u B) a t R = updR (updR s.rc b u B) a t R := by
    funext x y
    unfold updR
    by_cases e : x = a ∧ y = t
    · rw [if_pos e, if_pos e]
    · simp only [if_neg e]
  rw [h]
theorem ch0 : newX (msk24 ([0, 1000, 1000, 1000].take 10)) 10 = chX := by kernel_rfl
theorem chV_ok : okV chV := ⟨by simp only [chV]; omega, .inl ⟨rfl, by show (0 : Int) ≤ 1; decide, by show (1 : Int) ≤ 6; decide, rfl, rfl⟩⟩
theorem chW_ok {n : Int} (h : 0 ≤ n ∧ n ≤ 1000) : okV (chW n) := ⟨by simp only [chW]; omega, .inl ⟨rfl, by show (0 : Int) ≤ 1; decide, by show (1 : Int) ≤ 6; decide, rfl, rfl⟩⟩
theorem ch2 : voteE chX twS1 1 0 chV = 0 ∧ voteS chX twS1 1 0 chV = chS2 ∧ ∀ cs, voteC chX cs twS1 1 0 chV = raiseC cs 1 0 (capI chV) := by
  obtain ⟨g1, g2, g3⟩ := vote_go (xs := chX) (s := twS1) (who := 1) (ref := 0) (x := chV) (q := ⟨0, Tly.zero, 0, 0⟩) (by decide) chV_ok (by kernel_rfl) rfl (by kernel_rfl) (by rw [show (acct chX 1).free = 1000 by kernel_rfl, show capI chV = 100 by kernel_rfl]; decide) (.inr (by rw [show vrow twS1 1 0 = [] by kernel_rfl]; decide))
  exact ⟨g1, by rw [g2]; kernel_rfl, g3⟩
theorem ch3 {n : Int} (hn : 0 ≤ n ∧ n ≤ 1000) : delE chX chS2 2 0 1 1 n = 0 ∧ delS chX chS2 2 0 1 1 n = chS3 n ∧ ∀ cs, delC2 chX cs chS2 2 0 1 1 n = raiseC cs 2 0 n := by
  obtain ⟨g1, g2, g3⟩ := del_go (xs := chX) (s := chS2) (who := 2) (t := 0) (to := 1) (level := 1) (n := n) (by decide) (by decide) (by decide) (by decide) ⟨hn.1, by omega⟩ (by decide) (by kernel_rfl) (by kernel_rfl) (by rw [show (acct chX 2).free = 1000 by kernel_rfl]; exact hn.2)
  refine ⟨g1, ?_, g3⟩
  rw [g2, votes1 hn.1 (by omega), gets_one RecS.zero (0, chV) ⟨0, chG 0, 0, 0⟩ (by kernel_rfl) (by kernel_rfl) (by kernel_rfl) rfl, show RecS.zero.got = ⟨0, 0⟩ from rfl, gotW_zero (by omega) (by omega)]
  show VS.setP _ _ { (⟨0, chG 0, 0, 0⟩ : PollS) with t := addT (subT (addT Tly.zero (gainT chV ⟨0, 0⟩)) (gainT chV ⟨0, 0⟩)) (gainT chV ⟨n, n⟩) } = _
  rw [addT_sub]; rfl
theorem ch4 {n m level : Int} (hl : 0 ≤ level ∧ level ≤ 6) (hm : 0 ≤ m ∧ m ≤ 1000) : delE chX (chS3 n) 3 0 2 level m = 0 ∧ delS chX (chS3 n) 3 0 2 level m = chS4 n m level ∧ ∀ cs, delC2 chX cs (chS3 n) 3 0 2 level m = raiseC cs 3 0 m := by
  have hb := cv_bnd hm.1 hm.2 (by decide) hl
  obtain ⟨g1, g2, g3⟩ := del_go (xs := chX) (s := chS3 n) (who := 3) (t := 0) (to := 2) (level := level) (n := m) (by decide) (by decide) (by decide) hl ⟨hm.1, by omega⟩ (by decide) (by kernel_rfl) (by kernel_rfl) (by rw [show (acct chX 3).free = 1000 by kernel_rfl]; exact hm.2)
  refine ⟨g1, ?_, g3⟩
  rw [g2, gets_nil ⟨some ⟨1, 1, n⟩, ⟨0, 0⟩, 0, 0⟩ (by kernel_rfl) (by kernel_rfl), show (⟨some ⟨1, 1, n⟩, ⟨0, 0⟩, 0, 0⟩ : RecS).got = ⟨0, 0⟩ from rfl, gotW_zero (by omega) (by omega)]
  rfl
theorem ch5 {n m level : Int} (hn : 0 ≤ n ∧ n ≤ 1000) : undE (chS4 n m level) 2 0 = 0 ∧ undS (chS4 n m level) 2 0 0 = chS5 n m level := by
  have hE : undE (chS4 n m level) 2 0 = 0 := by kernel_rfl
  refine ⟨hE, ?_⟩
  have h1 : undS1 (chS4 n m level) 2 0 ⟨1, 1, n⟩ = (VS.setR ((chS4 n m level).setR 2 0 { (chS4 n m level).rc 2 0 with d := none }) 1 0 ⟨none, ⟨0, 0⟩, 0, 0⟩).setP 0 ⟨0, chG 0, 0, 0⟩ := by
    unfold undS1
    rw [gets_one ⟨none, ⟨n, n⟩, 0, 0⟩ (0, chV) ⟨0, chG n, 0, 0⟩ (by kernel_rfl) (by kernel_rfl) (by kernel_rfl) rfl]
    show VS.setP (VS.setR _ 1 0 ⟨none, gotW ⟨n, n⟩ ⟨w64 (0 - cvVotes n 1), w64 (0 - n)⟩, 0, 0⟩) 0 ⟨0, addT (subT (addT Tly.zero (gainT chV ⟨n, n⟩)) (gainT chV ⟨n, n⟩)) (gainT chV (gotW ⟨n, n⟩ ⟨w64 (0 - cvVotes n 1), w64 (0 - n)⟩)), 0, 0⟩ = _
    rw [votes1 hn.1 (by omega), gotW_back (by omega) (by omega), addT_sub]; rfl
  have hs : undS (chS4 n m level) 2 0 0 = (undS1 (chS4 n m level) 2 0 ⟨1, 1, n⟩).setR 2 0 (joinR ((undS1 (chS4 n m level) 2 0 ⟨1, 1, n⟩).rc 2 0) (w64 (0 + cvPeriod 1 8)) n 0) := by
    unfold undS
    rw [if_pos hE]; rfl
  rw [hs, h1]
  have hr : ((VS.setR ((chS4 n m level).setR 2 0 { (chS4 n m level).rc 2 0 with d := none }) 1 0 ⟨none, ⟨0, 0⟩, 0, 0⟩).setP 0 ⟨0, chG 0, 0, 0⟩).rc 2 0 = ⟨none, ⟨cvVotes m level, m⟩, 0, 0⟩ := by kernel_rfl
  rw [hr]
  exact setR_over (chS4 n m level) 0 ⟨0, chG 0, 0, 0⟩ 2 0 1 0 _ _ _
theorem ch6 {n m level : Int} (hn : 0 ≤ n ∧ n ≤ 1000) : voteE chX (chS5 n m level) 2 0 (chW n) = 0 ∧ voteS chX (chS5 n m level) 2 0 (chW n) = chS6 n m level ∧ ∀ cs, voteC chX cs (chS5 n m level) 2 0 (chW n) = raiseC cs 2 0 (capI (chW n)) := by
  have hok := chW_ok hn
  have hc := (capI_ok hok).1
  have hrc : (chS5 n m level).rc 2 0 = chR n m level := by kernel_rfl
  obtain ⟨g1, g2, g3⟩ := vote_go (xs := chX) (s := chS5 n m level) (who := 2) (ref := 0) (x := chW n) (q := ⟨0, chG 0, 0, 0⟩) (by decide) hok (by kernel_rfl) rfl (by show ((chS5 n m level).rc 2 0).d = none; rw [hrc]; exact joinR_d _ _ _ _) (by rw [hc, show (acct chX 2).free = 1000 by kernel_rfl]; simp only [chW]; omega) (.inr (by rw [show vrow (chS5 n m level) 2 0 = [] by kernel_rfl]; decide))
  refine ⟨g1, ?_, g3⟩
  have hg : (chR n m level).got = ⟨cvVotes m level, m⟩ := by unfold chR joinR; split <;> rfl
  rw [g2, show voteT (chS5 n m level) 2 0 (chW n) ⟨0, chG 0, 0, 0⟩ = addT (chG 0) (gainT (chW n) ((chS5 n m level).rc 2 0).got) by kernel_rfl, hrc, hg]
  show VS.mk _ _ _ = VS.mk _ _ _
  rfl
theorem ch7 {n m level : Int} (hn : 0 ≤ n ∧ n ≤ 1000) : tallyT (chS4 n m level) 0 = ⟨100 + n, 0, 100 + n⟩ := by
  rw [show tallyT (chS4 n m level) 0 = ⟨w64 (0 + w64 (100 + n)), w64 (0 + 0), w64 (0 + w64 (100 + n))⟩ by kernel_rfl, w64_0, w64_id (x := 100 + n) (by omega) (by omega)]; rfl
theorem ch8 {n m level : Int} (hn : 0 ≤ n ∧ n ≤ 1000) (hl : 0 ≤ level ∧ level ≤ 6) (hm : 0 ≤ m ∧ m ≤ 1000) : tallyT (chS6 n m level) 0 = ⟨100, n + cvVotes m level, 100⟩ := by
  have hb := cv_bnd hm.1 hm.2 (by decide) hl
  rw [show tallyT (chS6 n m level) 0 = ⟨w64 (100 + 0), w64 (0 + w64 (cvVotes n 1 + cvVotes m level)), w64 (100 + 0)⟩ by kernel_rfl, w64_0, votes1 hn.1 (by omega), w64_id (x := n + cvVotes m level) (by omega) (by omega)]; rfl
end Go.Al


namespace Go.Al
open Go Go.RowKit Go.Proofs
set_option maxRecDepth 10000 in
set_option maxHeartbeats 1000000 in
theorem undelegate_at (F : Nat → Prop) (v : Nat) (P : VP) (s : VS) (who t now : Int) (w : World) (h : Vot F w v P s) : Calls Tryz.prog 23 #[.pointer (some ⟨v, 0, none⟩), .int .i64 who, .int .i64 t, .int .i64 now] w fun e w' => e = .returned (.int .i64 (undE s who t)) ∧ (∃ F', VotE F' w' v (undS s who t now) ∧ (∀ q, F' q → F q ∨ w.heap.size ≤ q)) ∧ Keep F w w' := by
 have hFlt := Vot.lt h
 have hvlt := hFlt _ (Vot.at_ h)
 have hFo : ∀ q, F q → 0 ≤ q := fun q _ => Nat.zero_le q
 have hFr : ∀ q, F q → F q ∨ w.heap.size ≤ q := fun _ h => .inl h
 have hinv := Vot.inv h
 have hK0 : Keep F w w := Keep.refl _ _
 have hzhK0 := Keep.size hK0
 refine enterV Tryz.func23 rfl [pt v, nt who, nt t, nt now] 73 rfl rfl rfl ?_
 refine V_pick [(0, pt v), (1, nt who), (2, nt t), (3, nt now)] rfl ?_
 refine V_seq ?_
 refine V_region ?_
 refine OI_static 1 [(0, pt v), (1, nt who), (2, nt t), (3, nt now)] (by kernel_rfl) ?_
 refine OI_end rfl ?_
 refine X_then ?_
 refine V_seq ?_
 refine V_seq ?_
 refine V_region ?_
 refine OI_static 4 [(0, pt v), (1, nt who), (2, nt t), (3, nt now), (13, .bool false), (14, nt who)] (by kernel_rfl) ?_
 refine OI_call { callee := (Callee.value (Operand.func 47)), args := #[(Operand.tmp 14)], argTypes := #[3] } 47 #[nt who] (some 15) (by kernel_rfl) (by kernel_rfl) (by kernel_rfl) (isAcc_spec who _) ?_
 rintro _ w ⟨rfl, rfl⟩
 refine ⟨_, rfl, ?_⟩
 refine OI_static 8 [(0, pt v), (1, nt who), (2, nt t), (3, nt now), (18, .bool (!(decide (0 ≤ who ∧ who ≤ 9))))] (by kernel_rfl) ?_
 by_cases hg6 : 0 ≤ who ∧ who ≤ 9
 ·
  refine OI_eq [(0, pt v), (1, nt who), (2, nt t), (3, nt now), (18, .bool false)] (by first | simp [hg6] | rfl) ?_
  refine OI_static 9 [(0, pt v), (1, nt who), (2, nt t), (3, nt now), (18, .bool false), (19, nt t)] (by kernel_rfl) ?_
  refine OI_call { callee := (Callee.value (Operand.func 45)), args := #[(Operand.tmp 19)], argTypes := #[3] } 45 #[nt t] (some 20) (by kernel_rfl) (by kernel_rfl) (by kernel_rfl) (isTrk_spec t _) ?_
  rintro _ w ⟨rfl, rfl⟩
  refine ⟨_, rfl, ?_⟩
  refine OI_static 12 [(0, pt v), (1, nt who), (2, nt t), (3, nt now), (22, .bool (!(decide (0 ≤ t ∧ t ≤ 3))))] (by kernel_rfl) ?_
  refine OI_end rfl ?_
  refine X_then ?_
  refine V_not (0 ≤ t ∧ t ≤ 3) (by kernel_rfl) (fun hc12 => ?_) (fun hc12 => ?_)
  ·
   refine V_seq ?_
   refine V_region ?_
   refine OI_static 1 [(8, nt 1)] (by kernel_rfl) ?_
   refine OI_end rfl ?_
   refine X_then ?_
   refine V_ret ?_
   refine X_ret_then ?_
   have hE13 : undE s who t = 1 := by unfold undE; rw [if_pos (.inr (hc12))]
   exact X_return (nt 1) rfl ⟨by rw [hE13], ⟨F, ⟨_, by rw [show undS s who t now = s from by unfold undS; rw [hE13, if_neg (by decide)]]; exact h⟩, hFr⟩, hK0⟩
  ·
   refine V_skip ?_
   refine X_then ?_
   refine V_seq ?_
   refine V_region ?_
   refine OI_static 3 [(0, pt v), (2, nt t), (3, nt now), (23, pt v), (24, nt who), (25, nt t)] (by kernel_rfl) ?_
   rcases hd14 : (s.rc who t).d with _ | d15
   ·
    refine OI_call { callee := (Callee.value (Operand.func 48)), args := #[(Operand.tmp 23), (Operand.tmp 24), (Operand.tmp 25)], argTypes := #[31, 3, 3] } 48 #[pt v, nt who, nt t] (some 26) (by kernel_rfl) (by kernel_rfl) (by kernel_rfl) (record_spec F v P s who t _ h (by omega) (by omega)) ?_
    rintro _ w30 ⟨q20, P21, rfl, hgc25, hpp26, hgv27, hmn28, hdl29, ⟨F22, ho23, hfr24⟩, hk31⟩
    refine ⟨_, rfl, ?_⟩
    have hsz32 := Keep.size hk31
    replace hK0 := Keep.fresh hK0 hk31 (fun i hi hs => by rcases hFr i hs with h | h; exact h; (exfalso; omega))
    have own34 : ∀ q, F22 q → 0 ≤ q := fun q hq => by rcases hfr24 q hq with h | h; (have h1 := hFo q h; have h2 := hFlt q h; omega); omega
    have lt33 := Vot.lt ho23
    have rel35 : ∀ q, F22 q → F q ∨ w.heap.size ≤ q := fun q hq => by rcases hfr24 q hq with h | h; exact hFr q h; exact .inr (by omega)
    have hgq20lt := lt33 _ (Vot.at_ ho23)
    obtain ⟨hF37, hm36⟩ := Vot.recN ho23 hgc25 hd14
    have hq20lt := hm36.lt
    have hloq20 := lt33 _ hF37
    have hoq20 := own34 _ hF37
    refine OI_static 5 [(0, pt v), (2, nt t), (3, nt now), (9, pt q20)] (by kernel_rfl) ?_
    refine OI_end rfl ?_
    refine X_then ?_
    refine V_seq ?_
    refine V_region ?_
    refine OI_static 3 [(0, pt v), (2, nt t), (3, nt now), (9, pt q20), (29, pt q20)] (by kernel_rfl) ?_
    refine OI_cell 97 (.tmp 29) 0 (.pointer none) (some 30) (by kernel_rfl) (by kernel_rfl) hm36 (m := 1) (by kernel_rfl) rfl ?_
    refine OI_static 5 [(0, pt v), (2, nt t), (3, nt now), (9, pt q20), (10, .pointer none)] (by kernel_rfl) ?_
    refine OI_end rfl ?_
    refine X_then ?_
    refine V_seq ?_
    refine V_seq ?_
    refine V_region ?_
    refine OI_static 2 [(0, pt v), (2, nt t), (3, nt now), (9, pt q20), (10, .pointer none), (32, .bool true)] (by kernel_rfl) ?_
    refine OI_end rfl ?_
    refine X_then ?_
    refine V_true rfl ?_
    refine V_seq ?_
    refine V_region ?_
    refine OI_static 1 [(8, nt 4)] (by kernel_rfl) ?_
    refine OI_end rfl ?_
    refine X_then ?_
    refine V_ret ?_
    refine X_ret_then ?_
    have hE38 : undE s who t = 4 := by unfold undE; rw [if_neg (by rintro (h9 | h9); exact h9 hg6; exact h9 hc12)]; rw [if_neg (by rw [hd14]; decide)]
    exact X_return (nt 4) rfl ⟨by rw [hE38], ⟨F22, ⟨_, by rw [show undS s who t now = s from by unfold undS; rw [hE38, if_neg (by decide)]]; exact ho23⟩, rel35⟩, hK0⟩
   ·
    refine OI_call { callee := (Callee.value (Operand.func 48)), args := #[(Operand.tmp 23), (Operand.tmp 24), (Operand.tmp 25)], argTypes := #[31, 3, 3] } 48 #[pt v, nt who, nt t] (some 26) (by kernel_rfl) (by kernel_rfl) (by kernel_rfl) (record_spec F v P s who t _ h (by omega) (by omega)) ?_
    rintro _ w53 ⟨q43, P44, rfl, hgc48, hpp49, hgv50, hmn51, hdl52, ⟨F45, ho46, hfr47⟩, hk54⟩
    refine ⟨_, rfl, ?_⟩
    have hsz55 := Keep.size hk54
    replace hK0 := Keep.fresh hK0 hk54 (fun i hi hs => by rcases hFr i hs with h | h; exact h; (exfalso; omega))
    have own57 : ∀ q, F45 q → 0 ≤ q := fun q hq => by rcases hfr47 q hq with h | h; (have h1 := hFo q h; have h2 := hFlt q h; omega); omega
    have lt56 := Vot.lt ho46
    have rel58 : ∀ q, F45 q → F q ∨ w.heap.size ≤ q := fun q hq => by rcases hfr47 q hq with h | h; exact hFr q h; exact .inr (by omega)
    have hgq43lt := lt56 _ (Vot.at_ ho46)
    obtain ⟨bd61, hF60, hF62, hm59, hm63⟩ := Vot.recD ho46 hgc48 hd14
    have hbd61lt := hm63.lt
    have hlobd61 := lt56 _ hF62
    have hobd61 := own57 _ hF62
    have hq43lt := hm59.lt
    have hloq43 := lt56 _ hF60
    have hoq43 := own57 _ hF60
    have hnebd61q43 : bd61 ≠ q43 := Blk.ne hm63 hm59 (by decide)
    refine OI_static 5 [(0, pt v), (2, nt t), (3, nt now), (9, pt q43)] (by kernel_rfl) ?_
    refine OI_end rfl ?_
    refine X_then ?_
    refine V_seq ?_
    refine V_region ?_
    refine OI_static 3 [(0, pt v), (2, nt t), (3, nt now), (9, pt q43), (29, pt q43)] (by kernel_rfl) ?_
    refine OI_cell 97 (.tmp 29) 0 (pt bd61) (some 30) (by kernel_rfl) (by kernel_rfl) hm59 (m := 1) (by kernel_rfl) rfl ?_
    refine OI_static 5 [(0, pt v), (2, nt t), (3, nt now), (9, pt q43), (10, pt bd61)] (by kernel_rfl) ?_
    refine OI_end rfl ?_
    refine X_then ?_
    refine V_seq ?_
    refine V_seq ?_
    refine V_region ?_
    refine OI_static 2 [(0, pt v), (2, nt t), (3, nt now), (9, pt q43), (10, pt bd61), (32, .bool false)] (by kernel_rfl) ?_
    refine OI_end rfl ?_
    refine X_then ?_
    refine V_false rfl ?_
    refine V_skip ?_
    refine X_then ?_
    refine V_seq ?_
    refine V_region ?_
    refine OI_static 3 [(0, pt v), (2, nt t), (3, nt now), (9, pt q43), (10, pt bd61), (35, pt q43)] (by kernel_rfl) ?_
    refine OI_set (m := 1) (kd := false) 97 (.tmp 35) (.const (Value.pointer none)) 0 (.pointer none) [.pointer none] none (by kernel_rfl) (by kernel_rfl) (by kernel_rfl) hm59 (by kernel_rfl) (by kernel_rfl) (by kernel_rfl) (Nat.le_of_ble_eq_true (by kernel_rfl)) (by simp [Value.oneCell']) ?_
    intro w64 hn67 hk65 hz66
    replace hn67 : Blk w64 q43 [.pointer none, nt (((s.rc who t)).got.v), nt (((s.rc who t)).got.c), nt (((s.rc who t)).till), nt (((s.rc who t)).n)] 99 := hn67
    have hsz68 := Keep.size hk65
    replace hm63 := hm63.keep hk65 (by show ¬ (bd61 = q43); omega)
    replace hK0 := Keep.fresh hK0 hk65 (fun i hi hs => by have hs : F45 i := (by rw [show i = q43 from hs]; exact hF60); rcases rel58 i hs with h | h; exact h; (exfalso; omega))
    have ho69 := Vot.setRec (a := who) (t := t) (r' := { (s.rc who t) with d := none }) (dp := (some ⟨bd61, 0, none⟩)) (dp' := none) ho46 hgc48 hm59 hk65 (show Blk _ _ (RecS.cells none { (s.rc who t) with d := none }) _ from hn67) (.inr ⟨rfl, rfl⟩)
    obtain ⟨r70, hr70⟩ : ∃ r9 : RecS, r9 = { (s.rc who t) with d := none } := ⟨_, rfl⟩
    replace hn67 : Blk w64 q43 (RecS.cells none r70) 99 := by rw [hr70]; exact hn67
    have hq43lt := hn67.lt
    refine OI_end rfl ?_
    refine X_then ?_
    refine V_seq ?_
    refine V_draws (acts [14, 22]) none_ [[6, 7, 8, 9, 10, 11, 12, 13, 14, 0, 1, 2, 3, 4, 5, 15, 16, 17, 18, 19, 20, 21, 22]] (by kernel_rfl) (by repeat first | exact sure_body (by rintro _ _ ⟨h, _⟩; exact ⟨_, h⟩) | refine sure_then ?_ | refine sure_block ?_ | refine sure_join ?_) (by kernel_rfl) ?_
    intro w72 hk71 he73 L hL74
    have hsz75 := Keep.size hk71
    replace hm63 := hm63.keep hk71 (fun f => f)
    replace hn67 := hn67.keep hk71 (fun f => f)
    replace hK0 := Keep.tr hK0 (Keep.ofNone hk71)
    replace ho69 := Vot.keep ho69 hk71 (fun _ _ f => f)
    have qhm63 := hm63
    have qhn67 := hn67
    have K76 : Keep none_ w72 w72 := Keep.refl _ _
    obtain rfl := List.mem_singleton.1 hL74
    refine GI_static [9, 10, 11, 12, 13, 14, 0, 1, 2, 3, 4, 5, 15, 16, 17, 18, 19, 20, 21, 22] [(0, pt v), (2, nt t), (3, nt now), (9, pt q43), (10, pt bd61), (44, .pointer (some ⟨bd61, 2, none⟩))] (by kernel_rfl) ?_
    refine GI_cell 3 (.tmp 44) 2 (nt ((d15).n)) (some 45) (by kernel_rfl) (by kernel_rfl) (by kernel_rfl) qhm63 (fun f => f) (m := 1) (by kernel_rfl) rfl ?_
    refine GI_static [13, 14, 0, 1, 2, 3, 4, 5, 15, 16, 17, 18, 19, 20, 21, 22] [(0, pt v), (2, nt t), (3, nt now), (9, pt q43), (10, pt bd61), (45, nt ((d15).n)), (48, .pointer (some ⟨bd61, 1, none⟩))] (by kernel_rfl) ?_
    refine GI_cell 3 (.tmp 48) 1 (nt ((d15).level)) (some 49) (by kernel_rfl) (by kernel_rfl) (by kernel_rfl) qhm63 (fun f => f) (m := 1) (by kernel_rfl) rfl ?_
    refine GI_call { callee := (Callee.value (Operand.func 51)), args := #[(Operand.tmp 45), (Operand.tmp 49)], argTypes := #[3, 3] } 51 #[nt ((d15).n), nt ((d15).level)] (some 50) (by kernel_rfl) (by kernel_rfl) (by kernel_rfl) (by kernel_rfl) (cvVotes_spec ((d15).n) ((d15).level) _) ?_
    rintro _ w72 ⟨rfl, rfl⟩
    refine ⟨_, rfl, K76, ?_⟩
    refine GI_static [4, 5, 15, 16, 17, 18, 19, 20, 21, 22] [(2, nt t), (3, nt now), (9, pt q43), (10, pt bd61), (36, pt v), (39, pt bd61), (50, nt (cvVotes ((d15).n) ((d15).level)))] (by kernel_rfl) ?_
    refine GI_cell 3 (.tmp 39) 0 (nt ((d15).to)) (some 40) (by kernel_rfl) (by kernel_rfl) (by kernel_rfl) qhm63 (fun f => f) (m := 1) (by kernel_rfl) rfl ?_
    refine GI_static [19, 20, 21, 22] [(3, nt now), (9, pt q43), (10, pt bd61), (36, pt v), (40, nt ((d15).to)), (41, nt t), (51, nt (IntKind.i64.wrap (0 - (cvVotes ((d15).n) ((d15).level))))), (54, .pointer (some ⟨bd61, 2, none⟩))] (by kernel_rfl) ?_
    refine GI_cell 3 (.tmp 54) 2 (nt ((d15).n)) (some 55) (by kernel_rfl) (by kernel_rfl) (by kernel_rfl) qhm63 (fun f => f) (m := 1) (by kernel_rfl) rfl ?_
    refine GI_static [22] [(3, nt now), (9, pt q43), (10, pt bd61), (36, pt v), (40, nt ((d15).to)), (41, nt t), (57, .agg #[nt (IntKind.i64.wrap (0 - (cvVotes ((d15).n) ((d15).level)))), nt (IntKind.i64.wrap (0 - ((d15).n)))])] (by kernel_rfl) ?_
    refine GI_final 22 (by kernel_rfl) (by kernel_rfl) ?_
    refine OI_call { callee := (Callee.value (Operand.func 50)), args := #[(Operand.tmp 36), (Operand.tmp 40), (Operand.tmp 41), (Operand.tmp 57)], argTypes := #[31, 3, 3, 54] } 50 #[pt v, nt ((d15).to), nt t, .agg #[nt (IntKind.i64.wrap (0 - (cvVotes ((d15).n) ((d15).level)))), nt (IntKind.i64.wrap (0 - ((d15).n)))]] (some 58) (by kernel_rfl) (by kernel_rfl) (by kernel_rfl) (gets_spec F45 v P44 (s.setR who t { (s.rc who t) with d := none }) ((d15).to) t (Wgt.mk (IntKind.i64.wrap (0 - (cvVotes ((d15).n) ((d15).level)))) (IntKind.i64.wrap (0 - ((d15).n)))) _ ho69 (hinv.dels _ _ _ hd14).1 (by omega)) ?_
    rintro _ w84 ⟨rfl, P86, hpp90, hgv91, hmn92, hdl93, ⟨F87, ho88, hfr89⟩, hk85⟩
    refine ⟨_, rfl, ?_⟩
    have hsz94 := Keep.size hk85
    replace hK0 := Keep.fresh hK0 hk85 (fun i hi hs => by rcases rel58 i hs with h | h; exact h; (exfalso; omega))
    have own96 : ∀ q, F87 q → 0 ≤ q := fun q hq => by rcases hfr89 q hq with h | h; (have h1 := own57 q h; have h2 := lt56 q h; omega); omega
    have lt95 := Vot.lt ho88
    have rel97 : ∀ q, F87 q → F q ∨ w.heap.size ≤ q := fun q hq => by rcases hfr89 q hq with h | h; exact rel58 q h; exact .inr (by omega)
    have hqq43w84 := hmn92 _ _ _ hgc48
    obtain ⟨hF99, hm98⟩ := Vot.recN ho88 hqq43w84 (by rw [getsS_d]; exact (by rw [show (s.setR who t { (s.rc who t) with d := none }).rc who t = r70 from ((updR_self _ _ _ _).trans hr70.symm)]; first | done | exact (by rw [hr70])))
    have hq43lt := hm98.lt
    have hloq43 := lt95 _ hF99
    have hoq43 := own96 _ hF99
    have hdkbd61 := hdl93 bd61 _ hm63
    have hbd61lt := hdkbd61.lt
    refine OI_end rfl ?_
    refine X_then ?_
    refine V_seq ?_
    refine V_draws (acts [6, 13]) none_ [[2, 3, 4, 5, 6, 0, 1, 7, 8, 9, 10, 11, 12, 13]] (by kernel_rfl) (by repeat first | exact sure_body (by rintro _ _ ⟨h, _⟩; exact ⟨_, h⟩) | refine sure_then ?_ | refine sure_block ?_ | refine sure_join ?_) (by kernel_rfl) ?_
    intro w101 hk100 he102 L hL103
    have hsz104 := Keep.size hk100
    replace hm98 := hm98.keep hk100 (fun f => f)
    replace hdkbd61 := hdkbd61.keep hk100 (fun f => f)
    replace hK0 := Keep.tr hK0 (Keep.ofNone hk100)
    replace ho88 := Vot.keep ho88 hk100 (fun _ _ f => f)
    have qhm98 := hm98
    have qhdkbd61 := hdkbd61
    have K105 : Keep none_ w101 w101 := Keep.refl _ _
    obtain rfl := List.mem_singleton.1 hL103
    refine GI_static [5, 6, 0, 1, 7, 8, 9, 10, 11, 12, 13] [(3, nt now), (9, pt q43), (10, pt bd61), (63, .pointer (some ⟨bd61, 1, none⟩))] (by kernel_rfl) ?_
    refine GI_cell 3 (.tmp 63) 1 (nt ((d15).level)) (some 64) (by kernel_rfl) (by kernel_rfl) (by kernel_rfl) qhdkbd61 (fun f => f) (m := 1) (by kernel_rfl) rfl ?_
    refine GI_call { callee := (Callee.value (Operand.func 63)), args := #[(Operand.tmp 64), (Operand.const (Value.int IntKind.i64 8))], argTypes := #[3, 3] } 63 #[nt ((d15).level), nt 8] (some 65) (by kernel_rfl) (by kernel_rfl) (by kernel_rfl) (by kernel_rfl) (cvPeriod_spec ((d15).level) 8 _ (hinv.dels _ _ _ hd14).2.1) ?_
    rintro _ w101 ⟨rfl, rfl⟩
    refine ⟨_, rfl, K105, ?_⟩
    refine GI_static [11, 12, 13] [(3, nt now), (59, pt q43), (66, nt (IntKind.i64.wrap (now + (cvPeriod ((d15).level) 8)))), (69, .pointer (some ⟨bd61, 2, none⟩))] (by kernel_rfl) ?_
    refine GI_cell 3 (.tmp 69) 2 (nt ((d15).n)) (some 70) (by kernel_rfl) (by kernel_rfl) (by kernel_rfl) qhdkbd61 (fun f => f) (m := 1) (by kernel_rfl) rfl ?_
    refine GI_static [13] [(59, pt q43), (66, nt (IntKind.i64.wrap (now + (cvPeriod ((d15).level) 8)))), (70, nt ((d15).n)), (71, nt now)] (by kernel_rfl) ?_
    refine GI_final 13 (by kernel_rfl) (by kernel_rfl) ?_
    refine OI_call { callee := (Callee.value (Operand.func 62)), args := #[(Operand.tmp 59), (Operand.tmp 66), (Operand.tmp 70), (Operand.tmp 71)], argTypes := #[95, 3, 3, 3] } 62 #[pt q43, nt (IntKind.i64.wrap (now + (cvPeriod ((d15).level) 8))), nt ((d15).n), nt now] (some 72) (by kernel_rfl) (by kernel_rfl) (by kernel_rfl) (joins_spec q43 none ((getsS (s.setR who t { (s.rc who t) with d := none }) ((d15).to) t (Wgt.mk (IntKind.i64.wrap (0 - (cvVotes ((d15).n) ((d15).level)))) (IntKind.i64.wrap (0 - ((d15).n))))).rc who t) (IntKind.i64.wrap (now + (cvPeriod ((d15).level) 8))) ((d15).n) now _ hm98) ?_
    rintro _ w113 ⟨rfl, hn115, hk114⟩
    refine ⟨_, rfl, ?_⟩
    have hsz116 := Keep.size hk114
    replace hdkbd61 := hdkbd61.keep hk114 (by show ¬ (bd61 = q43); omega)
    replace hK0 := Keep.fresh hK0 hk114 (fun i hi hs => by have hs : F87 i := (by rw [show i = q43 from hs]; exact hF99); rcases rel97 i hs with h | h; exact h; (exfalso; omega))
    have ho117 := Vot.setRec (a := who) (t := t) (r' := (joinR ((getsS (s.setR who t { (s.rc who t) with d := none }) ((d15).to) t (Wgt.mk (IntKind.i64.wrap (0 - (cvVotes ((d15).n) ((d15).level)))) (IntKind.i64.wrap (0 - ((d15).n))))).rc who t) (IntKind.i64.wrap (now + (cvPeriod ((d15).level) 8))) ((d15).n) now)) (dp := none) (dp' := none) ho88 hqq43w84 hm98 hk114 (show Blk _ _ (RecS.cells none (joinR ((getsS (s.setR who t { (s.rc who t) with d := none }) ((d15).to) t (Wgt.mk (IntKind.i64.wrap (0 - (cvVotes ((d15).n) ((d15).level)))) (IntKind.i64.wrap (0 - ((d15).n))))).rc who t) (IntKind.i64.wrap (now + (cvPeriod ((d15).level) 8))) ((d15).n) now)) _ from hn115) (.inl ⟨rfl, by first | rfl | exact joinR_d _ _ _ _ | (rw [show (getsS (s.setR who t { (s.rc who t) with d := none }) ((d15).to) t (Wgt.mk (IntKind.i64.wrap (0 - (cvVotes ((d15).n) ((d15).level)))) (IntKind.i64.wrap (0 - ((d15).n))))).rc who t = ((getsS (s.setR who t { (s.rc who t) with d := none }) ((d15).to) t (Wgt.mk (IntKind.i64.wrap (0 - (cvVotes ((d15).n) ((d15).level)))) (IntKind.i64.wrap (0 - ((d15).n))))).rc who t) from rfl]) | (rw [show (getsS (s.setR who t { (s.rc who t) with d := none }) ((d15).to) t (Wgt.mk (IntKind.i64.wrap (0 - (cvVotes ((d15).n) ((d15).level)))) (IntKind.i64.wrap (0 - ((d15).n))))).rc who t = ((getsS (s.setR who t { (s.rc who t) with d := none }) ((d15).to) t (Wgt.mk (IntKind.i64.wrap (0 - (cvVotes ((d15).n) ((d15).level)))) (IntKind.i64.wrap (0 - ((d15).n))))).rc who t) from rfl]; exact joinR_d _ _ _ _)⟩)
    obtain ⟨r118, hr118⟩ : ∃ r9 : RecS, r9 = (joinR ((getsS (s.setR who t { (s.rc who t) with d := none }) ((d15).to) t (Wgt.mk (IntKind.i64.wrap (0 - (cvVotes ((d15).n) ((d15).level)))) (IntKind.i64.wrap (0 - ((d15).n))))).rc who t) (IntKind.i64.wrap (now + (cvPeriod ((d15).level) 8))) ((d15).n) now) := ⟨_, rfl⟩
    replace hn115 : Blk w113 q43 (RecS.cells none r118) 99 := by rw [hr118]; exact hn115
    have hq43lt := hn115.lt
    refine OI_end rfl ?_
    refine X_then ?_
    refine V_seq ?_
    refine V_region ?_
    refine OI_static 1 [(8, nt 0)] (by kernel_rfl) ?_
    refine OI_end rfl ?_
    refine X_then ?_
    refine V_ret ?_
    have hE119 : undE s who t = 0 := by unfold undE; rw [if_neg (by rintro (h9 | h9); exact h9 hg6; exact h9 hc12)]; rw [if_pos (by rw [hd14]; rfl)]
    exact X_return (nt 0) rfl ⟨by rw [hE119], ⟨F87, ⟨_, by rw [show undS s who t now = ((getsS (s.setR who t { (s.rc who t) with d := none }) ((d15).to) t (Wgt.mk (IntKind.i64.wrap (0 - (cvVotes ((d15).n) ((d15).level)))) (IntKind.i64.wrap (0 - ((d15).n))))).setR who t (joinR ((getsS (s.setR who t { (s.rc who t) with d := none }) ((d15).to) t (Wgt.mk (IntKind.i64.wrap (0 - (cvVotes ((d15).n) ((d15).level)))) (IntKind.i64.wrap (0 - ((d15).n))))).rc who t) (IntKind.i64.wrap (now + (cvPeriod ((d15).level) 8))) ((d15).n) now)) from by unfold undS; rw [hE119, if_pos rfl, hd14]; rfl]; exact ho117⟩, rel97⟩, hK0⟩
 ·
  refine OI_eq [(0, pt v), (1, nt who), (2, nt t), (3, nt now), (18, .bool true)] (by first | simp [hg6] | rfl) ?_
  refine OI_static 12 [(0, pt v), (1, nt who), (2, nt t), (3, nt now), (22, .bool true)] (by kernel_rfl) ?_
  refine OI_end rfl ?_
  refine X_then ?_
  refine V_true rfl ?_
  refine V_seq ?_
  refine V_region ?_
  refine OI_static 1 [(8, nt 1)] (by kernel_rfl) ?_
  refine OI_end rfl ?_
  refine X_then ?_
  refine V_ret ?_
  refine X_ret_then ?_
  have hE120 : undE s who t = 1 := by unfold undE; rw [if_pos (.inl hg6)]
  exact X_return (nt 1) rfl ⟨by rw [hE120], ⟨F, ⟨_, by rw [show undS s who t now = s from by unfold undS; rw [hE120, if_neg (by decide)]]; exact h⟩, hFr⟩, hK0⟩
end Go.Al


namespace Go.Al
open Go Go.RowKit Go.Proofs
theorem undelegate_specT (F : Nat → Prop) (v : Nat) (s : VS) (who t now : Int) (w : World) (h : VotT F w v s) : Calls Tryz.prog 23 #[.pointer (some ⟨v, 0, none⟩), .int .i64 who, .int .i64 t, .int .i64 now] w fun e w' => e = .returned (.int .i64 (undE s who t)) ∧ (∃ F', VotT F' w' v (undS s who t now) ∧ (∀ q, F' q → F q ∨ w.heap.size ≤ q)) ∧ Keep F w w' := by
  obtain ⟨h, ht⟩ := h
  refine ((let ⟨P, h⟩ := h; undelegate_at F v P s who t now w h)).mono ?_
  rintro e w' ⟨rfl, ⟨F', h1, h3⟩, hk⟩
  exact ⟨rfl, ⟨F', ⟨h1, ht.undS _ _ _⟩, h3⟩, hk⟩
end Go.Al


namespace Go.Al
open Go Go.RowKit Go.Proofs
set_option maxRecDepth 10000 in
set_option maxHeartbeats 1000000 in
theorem walk_VotingChain (n m level : Int) (w : World) : Calls Tryz.prog 4 #[.int .i64 n, .int .i64 m, .int .i64 level] w fun e w' => e = .returned (.bool true) ∧ Keep none_ w w' := by
 have hK0 : Keep none_ w w := Keep.refl _ _
 have hzhK0 := Keep.size hK0
 refine enterV Tryz.func4 rfl [nt n, nt m, nt level] 135 rfl rfl rfl ?_
 refine V_pick [(0, nt n), (1, nt m), (2, nt level)] rfl ?_
 refine V_seq ?_
 refine V_region ?_
 refine OI_static 1 [(0, nt n), (1, nt m), (2, nt level)] (by kernel_rfl) ?_
 refine OI_end rfl ?_
 refine X_then ?_
 refine V_seq ?_
 refine V_seq ?_
 refine V_region ?_
 refine OI_static 3 [(0, nt n), (1, nt m), (2, nt level), (17, .bool (decide (n < 0)))] (by kernel_rfl) ?_
 by_cases hg1 : n < 0
 ·
  refine OI_eq [(0, nt n), (1, nt m), (2, nt level), (17, .bool true)] (by first | simp [hg1] | rfl) ?_
  refine OI_static 22 [(0, nt n), (1, nt m), (2, nt level), (36, .bool true)] (by kernel_rfl) ?_
  refine OI_end rfl ?_
  refine X_then ?_
  refine V_true rfl ?_
  refine V_seq ?_
  refine V_region ?_
  refine OI_static 1 [(6, .bool true)] (by kernel_rfl) ?_
  refine OI_end rfl ?_
  refine X_then ?_
  refine V_ret ?_
  refine X_ret_then ?_
  exact X_return (.bool true) rfl ⟨rfl, hK0⟩
 ·
  refine OI_eq [(0, nt n), (1, nt m), (2, nt level), (17, .bool false)] (by first | simp [hg1] | rfl) ?_
  refine OI_static 7 [(0, nt n), (1, nt m), (2, nt level), (21, .bool (decide (n > 1000)))] (by kernel_rfl) ?_
  by_cases hg2 : n > 1000
  ·
   refine OI_eq [(0, nt n), (1, nt m), (2, nt level), (21, .bool true)] (by first | simp [hg2] | rfl) ?_
   refine OI_static 22 [(0, nt n), (1, nt m), (2, nt level), (36, .bool true)] (by kernel_rfl) ?_
   refine OI_end rfl ?_
   refine X_then ?_
   refine V_true rfl ?_
   refine V_seq ?_
   refine V_region ?_
   refine OI_static 1 [(6, .bool true)] (by kernel_rfl) ?_
   refine OI_end rfl ?_
   refine X_then ?_
   refine V_ret ?_
   refine X_ret_then ?_
   exact X_return (.bool true) rfl ⟨rfl, hK0⟩
  ·
   refine OI_eq [(0, nt n), (1, nt m), (2, nt level), (21, .bool false)] (by first | simp [hg2] | rfl) ?_
   refine OI_static 11 [(0, nt n), (1, nt m), (2, nt level), (25, .bool (decide (m < 0)))] (by kernel_rfl) ?_
   by_cases hg3 : m < 0
   ·
    refine OI_eq [(0, nt n), (1, nt m), (2, nt level), (25, .bool true)] (by first | simp [hg3] | rfl) ?_
    refine OI_static 22 [(0, nt n), (1, nt m), (2, nt level), (36, .bool true)] (by kernel_rfl) ?_
    refine OI_end rfl ?_
    refine X_then ?_
    refine V_true rfl ?_
    refine V_seq ?_
    refine V_region ?_
    refine OI_static 1 [(6, .bool true)] (by kernel_rfl) ?_
    refine OI_end rfl ?_
    refine X_then ?_
    refine V_ret ?_
    refine X_ret_then ?_
    exact X_return (.bool true) rfl ⟨rfl, hK0⟩
   ·
    refine OI_eq [(0, nt n), (1, nt m), (2, nt level), (25, .bool false)] (by first | simp [hg3] | rfl) ?_
    refine OI_static 15 [(0, nt n), (1, nt m), (2, nt level), (29, .bool (decide (m > 1000)))] (by kernel_rfl) ?_
    by_cases hg4 : m > 1000
    ·
     refine OI_eq [(0, nt n), (1, nt m), (2, nt level), (29, .bool true)] (by first | simp [hg4] | rfl) ?_
     refine OI_static 22 [(0, nt n), (1, nt m), (2, nt level), (36, .bool true)] (by kernel_rfl) ?_
     refine OI_end rfl ?_
     refine X_then ?_
     refine V_true rfl ?_
     refine V_seq ?_
     refine V_region ?_
     refine OI_static 1 [(6, .bool true)] (by kernel_rfl) ?_
     refine OI_end rfl ?_
     refine X_then ?_
     refine V_ret ?_
     refine X_ret_then ?_
     exact X_return (.bool true) rfl ⟨rfl, hK0⟩
    ·
     refine OI_eq [(0, nt n), (1, nt m), (2, nt level), (29, .bool false)] (by first | simp [hg4] | rfl) ?_
     refine OI_static 19 [(0, nt n), (1, nt m), (2, nt level), (33, .bool (decide (level < 0)))] (by kernel_rfl) ?_
     by_cases hg5 : level < 0
     ·
      refine OI_eq [(0, nt n), (1, nt m), (2, nt level), (33, .bool true)] (by first | simp [hg5] | rfl) ?_
      refine OI_static 22 [(0, nt n), (1, nt m), (2, nt level), (36, .bool true)] (by kernel_rfl) ?_
      refine OI_end rfl ?_
      refine X_then ?_
      refine V_true rfl ?_
      refine V_seq ?_
      refine V_region ?_
      refine OI_static 1 [(6, .bool true)] (by kernel_rfl) ?_
      refine OI_end rfl ?_
      refine X_then ?_
      refine V_ret ?_
      refine X_ret_then ?_
      exact X_return (.bool true) rfl ⟨rfl, hK0⟩
     ·
      refine OI_eq [(0, nt n), (1, nt m), (2, nt level), (33, .bool false)] (by first | simp [hg5] | rfl) ?_
      refine OI_static 22 [(0, nt n), (1, nt m), (2, nt level), (36, .bool (decide (level > 6)))] (by kernel_rfl) ?_
      refine OI_end rfl ?_
      refine X_then ?_
      refine V_if (level > 6) (by kernel_rfl) (fun hc6 => ?_) (fun hc6 => ?_)
      ·
       refine V_seq ?_
       refine V_region ?_
       refine OI_static 1 [(6, .bool true)] (by kernel_rfl) ?_
       refine OI_end rfl ?_
       refine X_then ?_
       refine V_ret ?_
       refine X_ret_then ?_
       exact X_return (.bool true) rfl ⟨rfl, hK0⟩
      ·
       refine V_skip ?_
       refine X_then ?_
       refine V_seq ?_
       refine V_region ?_
       refine OI_slit (E := 3) (zv := nt 0) (sz := 1) (by_ := 8) 28 4 #[(0, (Operand.const (Value.int IntKind.i64 0))), (1, (Operand.const (Value.int IntKind.i64 1000))), (2, (Operand.const (Value.int IntKind.i64 1000))), (3, (Operand.const (Value.int IntKind.i64 1000)))] [nt 0, nt 1000, nt 1000, nt 1000] [nt 0, nt 1000, nt 1000, nt 1000] (some 37) (by kernel_rfl) (by kernel_rfl) (by kernel_rfl) (by omega) rfl (by omega) (by intro v hv; simp only [List.mem_cons, List.not_mem_nil, or_false] at hv; rcases hv with rfl | rfl | rfl | rfl <;> rfl) (by kernel_rfl) rfl ?_
       intro b7 w7 e7 hb7 k7 z7
       have hsz8 := Keep.size k7
       replace hK0 := Keep.tr hK0 (Keep.ofNone k7)
       have hb7lt := hb7.lt
       refine OI_call { callee := (Callee.value (Operand.func 15)), args := #[(Operand.tmp 37)], argTypes := #[28] } 15 #[.slice (some ⟨b7, 0, none⟩) 4 4] (some 38) (by kernel_rfl) (by kernel_rfl) (by kernel_rfl) (begin_weak (some ⟨b7, 0, none⟩) 4 [0, 1000, 1000, 1000] _ (slt_blk (xs := [0, 1000, 1000, 1000]) (f := intc) hb7 (fun _ => rfl) rfl).arg (by simp)) ?_
       rintro _ w11 ⟨b13, v14, l15, F16, G17, xv18, yv19, rfl, hb20, ho21, hl22, hk12, hge23, hF24, hG25, hd26⟩
       refine ⟨_, rfl, ?_⟩
       have hsz27 := Keep.size hk12
       replace hb7 := hb7.keep hk12 (fun f => f)
       replace hK0 := Keep.tr hK0 (Keep.ofNone hk12)
       have hb13lt := hb20.lt
       have own28 : ∀ q, F16 q → w7.heap.size ≤ q ∧ q ≠ b7 ∧ q ≠ b13 := fun q hq => by have h1 := hF24 q hq; omega
       have lt29 := VotT.lt ho21
       have hb13lt := hb20.lt
       have own30 : ∀ q, G17 q → w7.heap.size ≤ q ∧ q ≠ b7 ∧ q ≠ b13 := fun q hq => by have h1 := hG25 q hq; omega
       have lt31 := Led.lt hl22
       replace hl22 : Led G17 w11 l15 chX ([] : List Ci) := by rw [ch0] at hl22; exact hl22
       refine OI_static 3 [(0, nt n), (1, nt m), (2, nt level), (7, pt b13)] (by kernel_rfl) ?_
       refine OI_end rfl ?_
       refine X_then ?_
       refine V_seq ?_
       refine V_seq ?_
       refine V_region ?_
       refine OI_static 2 [(0, nt n), (1, nt m), (2, nt level), (7, pt b13), (40, .bool false)] (by kernel_rfl) ?_
       refine OI_end rfl ?_
       refine X_then ?_
       refine V_false rfl ?_
       refine V_skip ?_
       refine X_then ?_
       refine V_seq ?_
       refine V_region ?_
       refine OI_static 3 [(0, nt n), (1, nt m), (2, nt level), (7, pt b13), (43, .pointer (some ⟨b13, 1, none⟩))] (by kernel_rfl) ?_
       refine OI_cell 31 (.tmp 43) 1 (pt v14) (some 44) (by kernel_rfl) (by kernel_rfl) hb20 (m := 1) (by kernel_rfl) rfl ?_
       refine OI_call { callee := (Callee.value (Operand.func 16)), args := #[(Operand.tmp 44), (Operand.const (Value.int IntKind.i64 0)), (Operand.const (Value.int IntKind.i64 0))], argTypes := #[31, 3, 3] } 16 #[pt v14, nt 0, nt 0] (some 45) (by kernel_rfl) (by kernel_rfl) (by kernel_rfl) (open_specT F16 v14 VS.zero 0 0 _ ho21) ?_
       rintro _ w34 ⟨rfl, ⟨F36, ho37, hfr38⟩, hk35⟩
       refine ⟨_, rfl, ?_⟩
       have hsz39 := Keep.size hk35
       replace hb20 := hb20.keep hk35 (fun hs => by have h1 := own28 _ hs; have h2 := lt29 _ hs; omega)
       replace hK0 := Keep.fresh hK0 hk35 (by intro i hi hs; first | exact hs | (exfalso; have h1 := own28 i hs; have h2 := lt29 i hs; omega) | (have h1 := own28 i hs; have h2 := lt29 i hs; show _ ∨ _; omega))
       replace hl22 := Led.keep hl22 hk35 (fun q hq hs => hd26 q hs hq)
       have own41 : ∀ q, F36 q → w7.heap.size ≤ q ∧ q ≠ b13 := fun q hq => by rcases hfr38 q hq with h | h; (have h1 := own28 q h; have h2 := lt29 q h; omega); omega
       have lt40 := VotT.lt ho37
       have dis42 : ∀ q, F36 q → ¬ G17 q := fun q h1 h2 => by rcases hfr38 q h1 with h | h; exact hd26 q h h2; (have h4 := lt31 q h2; omega)
       replace ho37 : VotT F36 w34 v14 twS1 := by rw [show openS VS.zero 0 0 = twS1 from rfl] at ho37; exact ho37
       refine OI_end rfl ?_
       refine X_then ?_
       refine V_seq ?_
       refine V_draws (acts [9]) none_ [[0, 1, 2, 3, 4, 5, 6, 7, 8, 9, 10]] (by kernel_rfl) (by repeat first | exact sure_body (by rintro _ _ ⟨h, _⟩; exact ⟨_, h⟩) | refine sure_then ?_ | refine sure_block ?_ | refine sure_join ?_) (by kernel_rfl) ?_
       intro w44 hk43 he45 L hL46
       have hsz47 := Keep.size hk43
       replace hb20 := hb20.keep hk43 (fun f => f)
       replace hK0 := Keep.tr hK0 (Keep.ofNone hk43)
       replace hl22 := Led.keep hl22 hk43 (fun _ _ f => f)
       replace ho37 := VotT.keep ho37 hk43 (fun _ _ f => f)
       have qhb20 := hb20
       have K48 : Keep none_ w44 w44 := Keep.refl _ _
       obtain rfl := List.mem_singleton.1 hL46
       refine GI_static [3, 4, 5, 6, 7, 8, 9, 10] [(0, nt n), (1, nt m), (2, nt level), (7, pt b13), (48, .pointer (some ⟨b13, 1, none⟩))] (by kernel_rfl) ?_
       refine GI_cell 31 (.tmp 48) 1 (pt v14) (some 49) (by kernel_rfl) (by kernel_rfl) (by kernel_rfl) qhb20 (fun f => f) (m := 1) (by kernel_rfl) rfl ?_
       refine GI_static [7, 8, 9, 10] [(0, nt n), (1, nt m), (2, nt level), (7, pt b13), (49, pt v14), (52, pt b13)] (by kernel_rfl) ?_
       refine GI_cell 30 (.tmp 52) 0 (pt l15) (some 53) (by kernel_rfl) (by kernel_rfl) (by kernel_rfl) qhb20 (fun f => f) (m := 1) (by kernel_rfl) rfl ?_
       refine GI_static [9, 10] [(0, nt n), (1, nt m), (2, nt level), (7, pt b13), (49, pt v14), (53, pt l15), (54, .agg #[nt 1, .bool true, nt 1, nt 100, nt 0, nt 0])] (by kernel_rfl) ?_
       obtain ⟨s2a, s2b, s2c⟩ := ch2
       refine GI_call0 { callee := (Callee.value (Operand.func 18)), args := #[(Operand.tmp 49), (Operand.tmp 53), (Operand.const (Value.int IntKind.i64 1)), (Operand.const (Value.int IntKind.i64 0)), (Operand.tmp 54)], argTypes := #[31, 30, 3, 3, 23] } 18 #[pt v14, pt l15, nt 1, nt 0, .agg #[nt 1, .bool true, nt 1, nt 100, nt 0, nt 0]] (some 55) (by kernel_rfl) (by kernel_rfl) (by kernel_rfl) (by kernel_rfl) (by kernel_rfl) (vote_spec F36 G17 v14 l15 twS1 chX ([] : List Ci) 1 0 (Vt.mk 1 true 1 100 0 0) _ ho37 hl22 dis42 (by first | decide | exact Nat.lt_trans (raise_lt (m := 1) (by decide) _ _ _) (by decide) | exact Nat.lt_trans (raise_lt (raise_lt (m := 1) (by decide) _ _ _) _ _ _) (by decide) | exact Nat.lt_trans (raise_lt (raise_lt (raise_lt (m := 1) (by decide) _ _ _) _ _ _) _ _ _) (by decide) | exact Nat.lt_trans (raise_lt (raise_lt (raise_lt (raise_lt (m := 1) (by decide) _ _ _) _ _ _) _ _ _) _ _ _) (by decide))) ?_
       rintro _ w51 ⟨rfl, ⟨F53, F56, ho54, ho57, hfr55, hfr58, hdis59⟩, hk52⟩
       refine ⟨_, rfl, ?_⟩
       have hsz60 := Keep.size hk52
       replace hb20 := hb20.keep hk52 (fun hs => by rcases hs with hs | hs; (have u0 := own41 _ hs; have u1 := lt40 _ hs; omega); (have u0 := own30 _ hs; have u1 := lt31 _ hs; omega))
       replace hK0 := Keep.fresh hK0 hk52 (by intro i hi hs; first | exact hs | (rcases hs with hs | hs; (have u0 := own41 i hs; have u1 := lt40 i hs; omega); (have u0 := own30 i hs; have u1 := lt31 i hs; omega)))
       have own62 : ∀ q, F53 q → w7.heap.size ≤ q ∧ q ≠ b13 := fun q hq => by rcases hfr55 q hq with h | h; (have h1 := own41 q h; have h2 := lt40 q h; omega); omega
       have lt61 := VotT.lt ho54
       have own64 : ∀ q, F56 q → w7.heap.size ≤ q ∧ q ≠ b13 := fun q hq => by rcases hfr58 q hq with h | h; (have h1 := own30 q h; have h2 := lt31 q h; omega); omega
       have lt63 := Led.lt ho57
       replace ho54 : VotT F53 w51 v14 chS2 := by rw [show voteS chX twS1 1 0 (Vt.mk 1 true 1 100 0 0) = chS2 from s2b] at ho54; exact ho54
       replace ho57 : Led F56 w51 l15 chX (raiseC ([] : List Ci) 1 0 (capI chV)) := by rw [show voteC chX ([] : List Ci) twS1 1 0 (Vt.mk 1 true 1 100 0 0) = (raiseC ([] : List Ci) 1 0 (capI chV)) from s2c _] at ho57; exact ho57
       refine GI_pick [(0, nt n), (1, nt m), (2, nt level), (7, pt b13), (55, nt (voteE chX twS1 1 0 (Vt.mk 1 true 1 100 0 0)))] (by kernel_rfl) ?_
       refine GI_eq [(0, nt n), (1, nt m), (2, nt level), (7, pt b13), (55, nt 0)] (by rw [show voteE chX twS1 1 0 (Vt.mk 1 true 1 100 0 0) = 0 from s2a]) ?_
       refine GI_static [] [(0, nt n), (1, nt m), (2, nt level), (7, pt b13), (8, nt 0)] (by kernel_rfl) ?_
       refine GI_end ?_
       refine X_then ?_
       refine V_seq ?_
       refine V_draws (acts [9]) none_ [[0, 1, 2, 3, 4, 5, 6, 7, 8, 9, 10]] (by kernel_rfl) (by repeat first | exact sure_body (by rintro _ _ ⟨h, _⟩; exact ⟨_, h⟩) | refine sure_then ?_ | refine sure_block ?_ | refine sure_join ?_) (by kernel_rfl) ?_
       intro w66 hk65 he67 L hL68
       have hsz69 := Keep.size hk65
       replace hb20 := hb20.keep hk65 (fun f => f)
       replace hK0 := Keep.tr hK0 (Keep.ofNone hk65)
       replace ho54 := VotT.keep ho54 hk65 (fun _ _ f => f)
       replace ho57 := Led.keep ho57 hk65 (fun _ _ f => f)
       have qhb20 := hb20
       have K70 : Keep none_ w66 w66 := Keep.refl _ _
       obtain rfl := List.mem_singleton.1 hL68
       refine GI_static [3, 4, 5, 6, 7, 8, 9, 10] [(0, nt n), (1, nt m), (2, nt level), (7, pt b13), (8, nt 0), (58, .pointer (some ⟨b13, 1, none⟩))] (by kernel_rfl) ?_
       refine GI_cell 31 (.tmp 58) 1 (pt v14) (some 59) (by kernel_rfl) (by kernel_rfl) (by kernel_rfl) qhb20 (fun f => f) (m := 1) (by kernel_rfl) rfl ?_
       refine GI_static [7, 8, 9, 10] [(0, nt n), (1, nt m), (2, nt level), (7, pt b13), (8, nt 0), (59, pt v14), (62, pt b13)] (by kernel_rfl) ?_
       refine GI_cell 30 (.tmp 62) 0 (pt l15) (some 63) (by kernel_rfl) (by kernel_rfl) (by kernel_rfl) qhb20 (fun f => f) (m := 1) (by kernel_rfl) rfl ?_
       refine GI_static [9, 10] [(0, nt n), (1, nt m), (2, nt level), (7, pt b13), (8, nt 0), (59, pt v14), (63, pt l15), (64, nt n)] (by kernel_rfl) ?_
       obtain ⟨s3a, s3b, s3c⟩ := ch3 (n := n) (by omega)
       refine GI_call0 { callee := (Callee.value (Operand.func 17)), args := #[(Operand.tmp 59), (Operand.tmp 63), (Operand.const (Value.int IntKind.i64 2)), (Operand.const (Value.int IntKind.i64 0)), (Operand.const (Value.int IntKind.i64 1)), (Operand.const (Value.int IntKind.i64 1)), (Operand.tmp 64)], argTypes := #[31, 30, 3, 3, 3, 3, 3] } 17 #[pt v14, pt l15, nt 2, nt 0, nt 1, nt 1, nt n] (some 65) (by kernel_rfl) (by kernel_rfl) (by kernel_rfl) (by kernel_rfl) (by kernel_rfl) (delegate_spec F53 F56 v14 l15 chS2 chX (raiseC ([] : List Ci) 1 0 (capI chV)) 2 0 1 1 n _ ho54 ho57 hdis59 (by first | decide | exact Nat.lt_trans (raise_lt (m := 1) (by decide) _ _ _) (by decide) | exact Nat.lt_trans (raise_lt (raise_lt (m := 1) (by decide) _ _ _) _ _ _) (by decide) | exact Nat.lt_trans (raise_lt (raise_lt (raise_lt (m := 1) (by decide) _ _ _) _ _ _) _ _ _) (by decide) | exact Nat.lt_trans (raise_lt (raise_lt (raise_lt (raise_lt (m := 1) (by decide) _ _ _) _ _ _) _ _ _) _ _ _) (by decide))) ?_
       rintro _ w73 ⟨rfl, ⟨F75, F78, ho76, ho79, hfr77, hfr80, hdis81⟩, hk74⟩
       refine ⟨_, rfl, ?_⟩
       have hsz82 := Keep.size hk74
       replace hb20 := hb20.keep hk74 (fun hs => by rcases hs with hs | hs; (have u0 := own62 _ hs; have u1 := lt61 _ hs; omega); (have u0 := own64 _ hs; have u1 := lt63 _ hs; omega))
       replace hK0 := Keep.fresh hK0 hk74 (by intro i hi hs; first | exact hs | (rcases hs with hs | hs; (have u0 := own62 i hs; have u1 := lt61 i hs; omega); (have u0 := own64 i hs; have u1 := lt63 i hs; omega)))
       have own84 : ∀ q, F75 q → w7.heap.size ≤ q ∧ q ≠ b13 := fun q hq => by rcases hfr77 q hq with h | h; (have h1 := own62 q h; have h2 := lt61 q h; omega); omega
       have lt83 := VotT.lt ho76
       have own86 : ∀ q, F78 q → w7.heap.size ≤ q ∧ q ≠ b13 := fun q hq => by rcases hfr80 q hq with h | h; (have h1 := own64 q h; have h2 := lt63 q h; omega); omega
       have lt85 := Led.lt ho79
       replace ho76 : VotT F75 w73 v14 (chS3 n) := by rw [s3b] at ho76; exact ho76
       replace ho79 : Led F78 w73 l15 chX (raiseC (raiseC ([] : List Ci) 1 0 (capI chV)) 2 0 n) := by rw [s3c _] at ho79; exact ho79
       refine GI_pick [(0, nt n), (1, nt m), (2, nt level), (7, pt b13), (8, nt 0), (65, nt (delE chX chS2 2 0 1 1 n))] (by kernel_rfl) ?_
       refine GI_eq [(0, nt n), (1, nt m), (2, nt level), (7, pt b13), (8, nt 0), (65, nt 0)] (by rw [s3a]) ?_
       refine GI_static [] [(0, nt n), (1, nt m), (2, nt level), (7, pt b13), (8, nt 0), (9, nt 0)] (by kernel_rfl) ?_
       refine GI_end ?_
       refine X_then ?_
       refine V_seq ?_
       refine V_draws (acts [10]) none_ [[0, 1, 2, 3, 4, 5, 6, 7, 8, 9, 10, 11]] (by kernel_rfl) (by repeat first | exact sure_body (by rintro _ _ ⟨h, _⟩; exact ⟨_, h⟩) | refine sure_then ?_ | refine sure_block ?_ | refine sure_join ?_) (by kernel_rfl) ?_
       intro w88 hk87 he89 L hL90
       have hsz91 := Keep.size hk87
       replace hb20 := hb20.keep hk87 (fun f => f)
       replace hK0 := Keep.tr hK0 (Keep.ofNone hk87)
       replace ho76 := VotT.keep ho76 hk87 (fun _ _ f => f)
       replace ho79 := Led.keep ho79 hk87 (fun _ _ f => f)
       have qhb20 := hb20
       have K92 : Keep none_ w88 w88 := Keep.refl _ _
       obtain rfl := List.mem_singleton.1 hL90
       refine GI_static [3, 4, 5, 6, 7, 8, 9, 10, 11] [(0, nt n), (1, nt m), (2, nt level), (7, pt b13), (8, nt 0), (9, nt 0), (68, .pointer (some ⟨b13, 1, none⟩))] (by kernel_rfl) ?_
       refine GI_cell 31 (.tmp 68) 1 (pt v14) (some 69) (by kernel_rfl) (by kernel_rfl) (by kernel_rfl) qhb20 (fun f => f) (m := 1) (by kernel_rfl) rfl ?_
       refine GI_static [7, 8, 9, 10, 11] [(0, nt n), (1, nt m), (2, nt level), (7, pt b13), (8, nt 0), (9, nt 0), (69, pt v14), (72, pt b13)] (by kernel_rfl) ?_
       refine GI_cell 30 (.tmp 72) 0 (pt l15) (some 73) (by kernel_rfl) (by kernel_rfl) (by kernel_rfl) qhb20 (fun f => f) (m := 1) (by kernel_rfl) rfl ?_
       refine GI_static [10, 11] [(0, nt n), (1, nt m), (2, nt level), (7, pt b13), (8, nt 0), (9, nt 0), (69, pt v14), (73, pt l15), (74, nt level), (75, nt m)] (by kernel_rfl) ?_
       obtain ⟨s4a, s4b, s4c⟩ := ch4 (n := n) (m := m) (level := level) (by omega) (by omega)
       refine GI_call0 { callee := (Callee.value (Operand.func 17)), args := #[(Operand.tmp 69), (Operand.tmp 73), (Operand.const (Value.int IntKind.i64 3)), (Operand.const (Value.int IntKind.i64 0)), (Operand.const (Value.int IntKind.i64 2)), (Operand.tmp 74), (Operand.tmp 75)], argTypes := #[31, 30, 3, 3, 3, 3, 3] } 17 #[pt v14, pt l15, nt 3, nt 0, nt 2, nt level, nt m] (some 76) (by kernel_rfl) (by kernel_rfl) (by kernel_rfl) (by kernel_rfl) (by kernel_rfl) (delegate_spec F75 F78 v14 l15 (chS3 n) chX (raiseC (raiseC ([] : List Ci) 1 0 (capI chV)) 2 0 n) 3 0 2 level m _ ho76 ho79 hdis81 (by first | decide | exact Nat.lt_trans (raise_lt (m := 1) (by decide) _ _ _) (by decide) | exact Nat.lt_trans (raise_lt (raise_lt (m := 1) (by decide) _ _ _) _ _ _) (by decide) | exact Nat.lt_trans (raise_lt (raise_lt (raise_lt (m := 1) (by decide) _ _ _) _ _ _) _ _ _) (by decide) | exact Nat.lt_trans (raise_lt (raise_lt (raise_lt (raise_lt (m := 1) (by decide) _ _ _) _ _ _) _ _ _) _ _ _) (by decide))) ?_
       rintro _ w95 ⟨rfl, ⟨F97, F100, ho98, ho101, hfr99, hfr102, hdis103⟩, hk96⟩
       refine ⟨_, rfl, ?_⟩
       have hsz104 := Keep.size hk96
       replace hb20 := hb20.keep hk96 (fun hs => by rcases hs with hs | hs; (have u0 := own84 _ hs; have u1 := lt83 _ hs; omega); (have u0 := own86 _ hs; have u1 := lt85 _ hs; omega))
       replace hK0 := Keep.fresh hK0 hk96 (by intro i hi hs; first | exact hs | (rcases hs with hs | hs; (have u0 := own84 i hs; have u1 := lt83 i hs; omega); (have u0 := own86 i hs; have u1 := lt85 i hs; omega)))
       have own106 : ∀ q, F97 q → w7.heap.size ≤ q ∧ q ≠ b13 := fun q hq => by rcases hfr99 q hq with h | h; (have h1 := own84 q h; have h2 := lt83 q h; omega); omega
       have lt105 := VotT.lt ho98
       have own108 : ∀ q, F100 q → w7.heap.size ≤ q ∧ q ≠ b13 := fun q hq => by rcases hfr102 q hq with h | h; (have h1 := own86 q h; have h2 := lt85 q h; omega); omega
       have lt107 := Led.lt ho101
       replace ho98 : VotT F97 w95 v14 (chS4 n m level) := by rw [s4b] at ho98; exact ho98
       replace ho101 : Led F100 w95 l15 chX (raiseC (raiseC (raiseC ([] : List Ci) 1 0 (capI chV)) 2 0 n) 3 0 m) := by rw [s4c _] at ho101; exact ho101
       refine GI_pick [(0, nt n), (1, nt m), (2, nt level), (7, pt b13), (8, nt 0), (9, nt 0), (76, nt (delE chX (chS3 n) 3 0 2 level m))] (by kernel_rfl) ?_
       refine GI_eq [(0, nt n), (1, nt m), (2, nt level), (7, pt b13), (8, nt 0), (9, nt 0), (76, nt 0)] (by rw [s4a]) ?_
       refine GI_static [] [(0, nt n), (1, nt m), (2, nt level), (7, pt b13), (8, nt 0), (9, nt 0), (10, nt 0)] (by kernel_rfl) ?_
       refine GI_end ?_
       refine X_then ?_
       refine V_seq ?_
       refine V_region ?_
       refine OI_static 3 [(0, nt n), (1, nt m), (2, nt level), (7, pt b13), (8, nt 0), (9, nt 0), (10, nt 0), (79, .pointer (some ⟨b13, 1, none⟩))] (by kernel_rfl) ?_
       refine OI_cell 31 (.tmp 79) 1 (pt v14) (some 80) (by kernel_rfl) (by kernel_rfl) hb20 (m := 1) (by kernel_rfl) rfl ?_
       refine OI_call { callee := (Callee.value (Operand.func 20)), args := #[(Operand.tmp 80), (Operand.const (Value.int IntKind.i64 0))], argTypes := #[31, 3] } 20 #[pt v14, nt 0] (some 81) (by kernel_rfl) (by kernel_rfl) (by kernel_rfl) (tally_spec F97 v14 (chS4 n m level) 0 _ (ho98).1) ?_
       rintro _ w109 ⟨rfl, hk110⟩
       refine ⟨_, rfl, ?_⟩
       have hsz111 := Keep.size hk110
       replace hb20 := hb20.keep hk110 (fun f => f)
       replace hK0 := Keep.tr hK0 (Keep.ofNone hk110)
       replace ho98 := VotT.keep ho98 hk110 (fun _ _ f => f)
       replace ho101 := Led.keep ho101 hk110 (fun _ _ f => f)
       refine OI_pick [(0, nt n), (1, nt m), (2, nt level), (7, pt b13), (8, nt 0), (9, nt 0), (10, nt 0), (81, .agg (Tly.cells (tallyT (chS4 n m level) 0)).toArray)] (by kernel_rfl) ?_
       refine OI_eq [(0, nt n), (1, nt m), (2, nt level), (7, pt b13), (8, nt 0), (9, nt 0), (10, nt 0), (81, .agg #[nt (100 + n), nt 0, nt (100 + n)])] (by rw [ch7 (by omega)]; rfl) ?_
       refine OI_alloc 43 (.agg #[nt 0, nt 0, nt 0]) [nt 0, nt 0, nt 0] (some 11) (by kernel_rfl) (by kernel_rfl) (by kernel_rfl) ?_
       intro b112 w112 e112 hb112 k112 z112
       have hsz113 := Keep.size k112
       replace hb20 := hb20.keep k112 (fun f => f)
       replace hK0 := Keep.tr hK0 (Keep.ofNone k112)
       replace ho98 := VotT.keep ho98 k112 (fun _ _ f => f)
       replace ho101 := Led.keep ho101 k112 (fun _ _ f => f)
       have hb112lt := hb112.lt
       refine OI_set (m := 3) (kd := true) 43 (.tmp 11) (.tmp 81) 0 (.agg #[nt (100 + n), nt 0, nt (100 + n)]) [nt (100 + n), nt 0, nt (100 + n)] none (by kernel_rfl) (by kernel_rfl) (by kernel_rfl) hb112 (by kernel_rfl) (by kernel_rfl) (by kernel_rfl) (Nat.le_of_ble_eq_true (by kernel_rfl)) (by simp [Value.oneCell']) ?_
       intro w114 hb112_117 hk115 hz116
       replace hb112_117 : Blk w114 b112 [nt (100 + n), nt 0, nt (100 + n)] 43 := hb112_117
       have hsz118 := Keep.size hk115
       replace hb20 := hb20.keep hk115 (by show ¬ (_ = _); omega)
       replace hK0 := Keep.fresh hK0 hk115 (by intro i hi hs; first | exact hs | exact Or.inl hs | exact Or.inr hs | (exfalso; have hs2 : i = b112 := hs; omega))
       replace ho98 := VotT.keep ho98 hk115 (fun q hq hs => by have hs : q = b112 := hs; have g0 := own106 q hq; have g1 := lt105 q hq; omega)
       replace ho101 := Led.keep ho101 hk115 (fun q hq hs => by have hs : q = b112 := hs; have g0 := own108 q hq; have g1 := lt107 q hq; omega)
       refine OI_end rfl ?_
       refine X_then ?_
       refine V_seq ?_
       refine V_region ?_
       refine OI_static 3 [(0, nt n), (1, nt m), (2, nt level), (7, pt b13), (8, nt 0), (9, nt 0), (10, nt 0), (11, pt b112), (84, .pointer (some ⟨b13, 1, none⟩))] (by kernel_rfl) ?_
       refine OI_cell 31 (.tmp 84) 1 (pt v14) (some 85) (by kernel_rfl) (by kernel_rfl) hb20 (m := 1) (by kernel_rfl) rfl ?_
       obtain ⟨s5a, s5b⟩ := ch5 (n := n) (m := m) (level := level) (by omega)
       refine OI_call { callee := (Callee.value (Operand.func 23)), args := #[(Operand.tmp 85), (Operand.const (Value.int IntKind.i64 2)), (Operand.const (Value.int IntKind.i64 0)), (Operand.const (Value.int IntKind.i64 0))], argTypes := #[31, 3, 3, 3] } 23 #[pt v14, nt 2, nt 0, nt 0] (some 86) (by kernel_rfl) (by kernel_rfl) (by kernel_rfl) (undelegate_specT F97 v14 (chS4 n m level) 2 0 0 _ ho98) ?_
       rintro _ w121 ⟨rfl, ⟨F123, ho124, hfr125⟩, hk122⟩
       refine ⟨_, rfl, ?_⟩
       have hsz126 := Keep.size hk122
       replace hb20 := hb20.keep hk122 (fun hs => by have h1 := own106 _ hs; have h2 := lt105 _ hs; omega)
       replace hb112_117 := hb112_117.keep hk122 (fun hs => by have h1 := own106 _ hs; have h2 := lt105 _ hs; omega)
       replace hK0 := Keep.fresh hK0 hk122 (by intro i hi hs; first | exact hs | (exfalso; have h1 := own106 i hs; have h2 := lt105 i hs; omega) | (have h1 := own106 i hs; have h2 := lt105 i hs; show _ ∨ _; omega))
       replace ho101 := Led.keep ho101 hk122 (fun q hq hs => hdis103 q hs hq)
       have own128 : ∀ q, F123 q → w7.heap.size ≤ q ∧ q ≠ b13 ∧ q ≠ b112 := fun q hq => by rcases hfr125 q hq with h | h; (have h1 := own106 q h; have h2 := lt105 q h; omega); omega
       have lt127 := VotT.lt ho124
       have dis129 : ∀ q, F123 q → ¬ F100 q := fun q h1 h2 => by rcases hfr125 q h1 with h | h; exact hdis103 q h h2; (have h4 := lt107 q h2; omega)
       replace ho124 : VotT F123 w121 v14 (chS5 n m level) := by rw [s5b] at ho124; exact ho124
       refine OI_pick [(0, nt n), (1, nt m), (2, nt level), (7, pt b13), (8, nt 0), (9, nt 0), (10, nt 0), (11, pt b112), (86, nt (undE (chS4 n m level) 2 0))] (by kernel_rfl) ?_
       refine OI_eq [(0, nt n), (1, nt m), (2, nt level), (7, pt b13), (8, nt 0), (9, nt 0), (10, nt 0), (11, pt b112), (86, nt 0)] (by rw [s5a]) ?_
       refine OI_static 6 [(0, nt n), (1, nt m), (2, nt level), (7, pt b13), (8, nt 0), (9, nt 0), (10, nt 0), (11, pt b112), (12, nt 0)] (by kernel_rfl) ?_
       refine OI_end rfl ?_
       refine X_then ?_
       refine V_seq ?_
       refine V_draws (acts [10]) none_ [[0, 1, 2, 3, 4, 5, 6, 7, 8, 9, 10, 11]] (by kernel_rfl) (by repeat first | exact sure_body (by rintro _ _ ⟨h, _⟩; exact ⟨_, h⟩) | refine sure_then ?_ | refine sure_block ?_ | refine sure_join ?_) (by kernel_rfl) ?_
       intro w131 hk130 he132 L hL133
       have hsz134 := Keep.size hk130
       replace hb20 := hb20.keep hk130 (fun f => f)
       replace hb112_117 := hb112_117.keep hk130 (fun f => f)
       replace hK0 := Keep.tr hK0 (Keep.ofNone hk130)
       replace ho101 := Led.keep ho101 hk130 (fun _ _ f => f)
       replace ho124 := VotT.keep ho124 hk130 (fun _ _ f => f)
       have qhb20 := hb20
       have qhb112_117 := hb112_117
       have K135 : Keep none_ w131 w131 := Keep.refl _ _
       obtain rfl := List.mem_singleton.1 hL133
       refine GI_static [3, 4, 5, 6, 7, 8, 9, 10, 11] [(0, nt n), (1, nt m), (2, nt level), (7, pt b13), (8, nt 0), (9, nt 0), (10, nt 0), (11, pt b112), (12, nt 0), (89, .pointer (some ⟨b13, 1, none⟩))] (by kernel_rfl) ?_
       refine GI_cell 31 (.tmp 89) 1 (pt v14) (some 90) (by kernel_rfl) (by kernel_rfl) (by kernel_rfl) qhb20 (fun f => f) (m := 1) (by kernel_rfl) rfl ?_
       refine GI_static [7, 8, 9, 10, 11] [(0, nt n), (1, nt m), (2, nt level), (7, pt b13), (8, nt 0), (9, nt 0), (10, nt 0), (11, pt b112), (12, nt 0), (90, pt v14), (93, pt b13)] (by kernel_rfl) ?_
       refine GI_cell 30 (.tmp 93) 0 (pt l15) (some 94) (by kernel_rfl) (by kernel_rfl) (by kernel_rfl) qhb20 (fun f => f) (m := 1) (by kernel_rfl) rfl ?_
       refine GI_static [10, 11] [(0, nt n), (1, nt m), (2, nt level), (7, pt b13), (8, nt 0), (9, nt 0), (10, nt 0), (11, pt b112), (12, nt 0), (90, pt v14), (94, pt l15), (96, .agg #[nt 1, .bool false, nt 1, nt n, nt 0, nt 0])] (by kernel_rfl) ?_
       obtain ⟨s6a, s6b, s6c⟩ := ch6 (n := n) (m := m) (level := level) (by omega)
       refine GI_call0 { callee := (Callee.value (Operand.func 18)), args := #[(Operand.tmp 90), (Operand.tmp 94), (Operand.const (Value.int IntKind.i64 2)), (Operand.const (Value.int IntKind.i64 0)), (Operand.tmp 96)], argTypes := #[31, 30, 3, 3, 23] } 18 #[pt v14, pt l15, nt 2, nt 0, .agg #[nt 1, .bool false, nt 1, nt n, nt 0, nt 0]] (some 97) (by kernel_rfl) (by kernel_rfl) (by kernel_rfl) (by kernel_rfl) (by kernel_rfl) (vote_spec F123 F100 v14 l15 (chS5 n m level) chX (raiseC (raiseC (raiseC ([] : List Ci) 1 0 (capI chV)) 2 0 n) 3 0 m) 2 0 (Vt.mk 1 false 1 n 0 0) _ ho124 ho101 dis129 (by first | decide | exact Nat.lt_trans (raise_lt (m := 1) (by decide) _ _ _) (by decide) | exact Nat.lt_trans (raise_lt (raise_lt (m := 1) (by decide) _ _ _) _ _ _) (by decide) | exact Nat.lt_trans (raise_lt (raise_lt (raise_lt (m := 1) (by decide) _ _ _) _ _ _) _ _ _) (by decide) | exact Nat.lt_trans (raise_lt (raise_lt (raise_lt (raise_lt (m := 1) (by decide) _ _ _) _ _ _) _ _ _) _ _ _) (by decide))) ?_
       rintro _ w138 ⟨rfl, ⟨F140, F143, ho141, ho144, hfr142, hfr145, hdis146⟩, hk139⟩
       refine ⟨_, rfl, ?_⟩
       have hsz147 := Keep.size hk139
       replace hb20 := hb20.keep hk139 (fun hs => by rcases hs with hs | hs; (have u0 := own128 _ hs; have u1 := lt127 _ hs; omega); (have u0 := own108 _ hs; have u1 := lt107 _ hs; omega))
       replace hb112_117 := hb112_117.keep hk139 (fun hs => by rcases hs with hs | hs; (have u0 := own128 _ hs; have u1 := lt127 _ hs; omega); (have u0 := own108 _ hs; have u1 := lt107 _ hs; omega))
       replace hK0 := Keep.fresh hK0 hk139 (by intro i hi hs; first | exact hs | (rcases hs with hs | hs; (have u0 := own128 i hs; have u1 := lt127 i hs; omega); (have u0 := own108 i hs; have u1 := lt107 i hs; omega)))
       have own149 : ∀ q, F140 q → w7.heap.size ≤ q ∧ q ≠ b13 ∧ q ≠ b112 := fun q hq => by rcases hfr142 q hq with h | h; (have h1 := own128 q h; have h2 := lt127 q h; omega); omega
       have lt148 := VotT.lt ho141
       have own151 : ∀ q, F143 q → w7.heap.size ≤ q ∧ q ≠ b13 ∧ q ≠ b112 := fun q hq => by rcases hfr145 q hq with h | h; (have h1 := own108 q h; have h2 := lt107 q h; omega); omega
       have lt150 := Led.lt ho144
       replace ho141 : VotT F140 w138 v14 (chS6 n m level) := by rw [show voteS chX (chS5 n m level) 2 0 (Vt.mk 1 false 1 n 0 0) = chS6 n m level from s6b] at ho141; exact ho141
       replace ho144 : Led F143 w138 l15 chX (raiseC (raiseC (raiseC (raiseC ([] : List Ci) 1 0 (capI chV)) 2 0 n) 3 0 m) 2 0 (capI (chW n))) := by rw [show voteC chX (raiseC (raiseC (raiseC ([] : List Ci) 1 0 (capI chV)) 2 0 n) 3 0 m) (chS5 n m level) 2 0 (Vt.mk 1 false 1 n 0 0) = (raiseC (raiseC (raiseC (raiseC ([] : List Ci) 1 0 (capI chV)) 2 0 n) 3 0 m) 2 0 (capI (chW n))) from s6c _] at ho144; exact ho144
       refine GI_pick [(0, nt n), (1, nt m), (2, nt level), (7, pt b13), (8, nt 0), (9, nt 0), (10, nt 0), (11, pt b112), (12, nt 0), (97, nt (voteE chX (chS5 n m level) 2 0 (Vt.mk 1 false 1 n 0 0)))] (by kernel_rfl) ?_
       refine GI_eq [(0, nt n), (1, nt m), (2, nt level), (7, pt b13), (8, nt 0), (9, nt 0), (10, nt 0), (11, pt b112), (12, nt 0), (97, nt 0)] (by rw [show voteE chX (chS5 n m level) 2 0 (Vt.mk 1 false 1 n 0 0) = 0 from s6a]) ?_
       refine GI_static [] [(0, nt n), (1, nt m), (2, nt level), (7, pt b13), (8, nt 0), (9, nt 0), (10, nt 0), (11, pt b112), (12, nt 0), (13, nt 0)] (by kernel_rfl) ?_
       refine GI_end ?_
       refine X_then ?_
       refine V_seq ?_
       refine V_region ?_
       refine OI_static 3 [(0, nt n), (1, nt m), (2, nt level), (8, nt 0), (9, nt 0), (10, nt 0), (11, pt b112), (12, nt 0), (13, nt 0), (100, .pointer (some ⟨b13, 1, none⟩))] (by kernel_rfl) ?_
       refine OI_cell 31 (.tmp 100) 1 (pt v14) (some 101) (by kernel_rfl) (by kernel_rfl) hb20 (m := 1) (by kernel_rfl) rfl ?_
       refine OI_call { callee := (Callee.value (Operand.func 20)), args := #[(Operand.tmp 101), (Operand.const (Value.int IntKind.i64 0))], argTypes := #[31, 3] } 20 #[pt v14, nt 0] (some 102) (by kernel_rfl) (by kernel_rfl) (by kernel_rfl) (tally_spec F140 v14 (chS6 n m level) 0 _ (ho141).1) ?_
       rintro _ w152 ⟨rfl, hk153⟩
       refine ⟨_, rfl, ?_⟩
       have hsz154 := Keep.size hk153
       replace hb112_117 := hb112_117.keep hk153 (fun f => f)
       replace hK0 := Keep.tr hK0 (Keep.ofNone hk153)
       replace ho141 := VotT.keep ho141 hk153 (fun _ _ f => f)
       replace ho144 := Led.keep ho144 hk153 (fun _ _ f => f)
       refine OI_pick [(0, nt n), (1, nt m), (2, nt level), (8, nt 0), (9, nt 0), (10, nt 0), (11, pt b112), (12, nt 0), (13, nt 0), (102, .agg (Tly.cells (tallyT (chS6 n m level) 0)).toArray)] (by kernel_rfl) ?_
       refine OI_eq [(0, nt n), (1, nt m), (2, nt level), (8, nt 0), (9, nt 0), (10, nt 0), (11, pt b112), (12, nt 0), (13, nt 0), (102, .agg #[nt 100, nt (n + (cvVotes m level)), nt 100])] (by rw [ch8 (by omega) (by omega) (by omega)]; rfl) ?_
       refine OI_alloc 43 (.agg #[nt 0, nt 0, nt 0]) [nt 0, nt 0, nt 0] (some 14) (by kernel_rfl) (by kernel_rfl) (by kernel_rfl) ?_
       intro b155 w155 e155 hb155 k155 z155
       have hsz156 := Keep.size k155
       replace hb112_117 := hb112_117.keep k155 (fun f => f)
       replace hK0 := Keep.tr hK0 (Keep.ofNone k155)
       replace ho141 := VotT.keep ho141 k155 (fun _ _ f => f)
       replace ho144 := Led.keep ho144 k155 (fun _ _ f => f)
       have hb155lt := hb155.lt
       refine OI_set (m := 3) (kd := true) 43 (.tmp 14) (.tmp 102) 0 (.agg #[nt 100, nt (n + (cvVotes m level)), nt 100]) [nt 100, nt (n + (cvVotes m level)), nt 100] none (by kernel_rfl) (by kernel_rfl) (by kernel_rfl) hb155 (by kernel_rfl) (by kernel_rfl) (by kernel_rfl) (Nat.le_of_ble_eq_true (by kernel_rfl)) (by simp [Value.oneCell']) ?_
       intro w157 hb155_160 hk158 hz159
       replace hb155_160 : Blk w157 b155 [nt 100, nt (n + (cvVotes m level)), nt 100] 43 := hb155_160
       have hsz161 := Keep.size hk158
       replace hb112_117 := hb112_117.keep hk158 (by show ¬ (_ = _); omega)
       replace hK0 := Keep.fresh hK0 hk158 (by intro i hi hs; first | exact hs | exact Or.inl hs | exact Or.inr hs | (exfalso; have hs2 : i = b155 := hs; omega))
       replace ho141 := VotT.keep ho141 hk158 (fun q hq hs => by have hs : q = b155 := hs; have g0 := own149 q hq; have g1 := lt148 q hq; omega)
       replace ho144 := Led.keep ho144 hk158 (fun q hq hs => by have hs : q = b155 := hs; have g0 := own151 q hq; have g1 := lt150 q hq; omega)
       refine OI_end rfl ?_
       refine X_then ?_
       refine V_seq ?_
       refine V_draws (acts [24, 30]) none_ [[0, 1, 2, 3, 4, 5, 6, 7, 8, 9, 10, 11, 12, 13, 14, 15, 16, 17, 18, 19, 22, 23, 24, 20, 21, 25, 26, 27, 28, 29, 30, 31, 32]] (by kernel_rfl) (by repeat first | exact sure_body (by rintro _ _ ⟨h, _⟩; exact ⟨_, h⟩) | refine sure_then ?_ | refine sure_block ?_ | refine sure_join ?_) (by kernel_rfl) ?_
       intro w163 hk162 he164 L hL165
       have hsz166 := Keep.size hk162
       replace hb112_117 := hb112_117.keep hk162 (fun f => f)
       replace hb155_160 := hb155_160.keep hk162 (fun f => f)
       replace hK0 := Keep.tr hK0 (Keep.ofNone hk162)
       replace ho141 := VotT.keep ho141 hk162 (fun _ _ f => f)
       replace ho144 := Led.keep ho144 hk162 (fun _ _ f => f)
       have qhb112_117 := hb112_117
       have qhb155_160 := hb155_160
       have K167 : Keep none_ w163 w163 := Keep.refl _ _
       obtain rfl := List.mem_singleton.1 hL165
       refine GI_static [11, 12, 13, 14, 15, 16, 17, 18, 19, 22, 23, 24, 20, 21, 25, 26, 27, 28, 29, 30, 31, 32] [(0, nt n), (1, nt m), (2, nt level), (11, pt b112), (14, pt b155), (113, .bool true)] (by kernel_rfl) ?_
       refine GI_agg 43 (.tmp 11) 0 [nt (100 + n), nt 0, nt (100 + n)] (some 114) (by kernel_rfl) (by kernel_rfl) (by kernel_rfl) qhb112_117 (fun f => f) (m := 3) (by kernel_rfl) rfl rfl ?_
       have hw168 : IntKind.i64.wrap (100 + n) = 100 + n := (wrap64_id (by omega) (by omega)).trans (by omega)
       refine GI_static [14, 15, 16, 17, 18, 19, 22, 23, 24, 20, 21, 25, 26, 27, 28, 29, 30, 31, 32] [(0, nt n), (1, nt m), (2, nt level), (14, pt b155), (113, .bool true), (114, .agg #[nt (100 + n), nt 0, nt (100 + n)]), (116, nt (IntKind.i64.wrap (100 + n)))] (by kernel_rfl) ?_
       refine GI_eq [(0, nt n), (1, nt m), (2, nt level), (14, pt b155), (113, .bool true), (114, .agg #[nt (100 + n), nt 0, nt (100 + n)]), (116, nt (100 + n))] (by rw [hw168]) ?_
       have hw169 : IntKind.i64.wrap (100 + n) = 100 + n := (wrap64_id (by omega) (by omega)).trans (by omega)
       refine GI_static [16, 17, 18, 19, 22, 23, 24, 20, 21, 25, 26, 27, 28, 29, 30, 31, 32] [(0, nt n), (1, nt m), (2, nt level), (14, pt b155), (113, .bool true), (114, .agg #[nt (100 + n), nt 0, nt (100 + n)]), (116, nt (100 + n)), (118, nt (IntKind.i64.wrap (100 + n)))] (by kernel_rfl) ?_
       refine GI_eq [(0, nt n), (1, nt m), (2, nt level), (14, pt b155), (113, .bool true), (114, .agg #[nt (100 + n), nt 0, nt (100 + n)]), (116, nt (100 + n)), (118, nt (100 + n))] (by rw [hw169]) ?_
       refine GI_static [17, 18, 19, 22, 23, 24, 20, 21, 25, 26, 27, 28, 29, 30, 31, 32] [(0, nt n), (1, nt m), (2, nt level), (14, pt b155), (113, .bool true), (114, .agg #[nt (100 + n), nt 0, nt (100 + n)]), (119, .agg #[nt (100 + n), nt 0, nt (100 + n)])] (by kernel_rfl) ?_
       refine GI_pure (some 120) ((Op.binOp BinOp.eql 43 (Operand.tmp 114) (Operand.tmp 119) 43)) (by kernel_rfl) (by kernel_rfl) (pure_eql_same (xs := [nt (100 + n), nt 0, nt (100 + n)]) (by kernel_rfl) (by kernel_rfl) (by kernel_rfl) (by kernel_rfl)) ?_
       refine GI_static [24, 20, 21, 25, 26, 27, 28, 29, 30, 31, 32] [(0, nt n), (14, pt b155), (122, .bool true), (125, nt m), (126, nt level)] (by kernel_rfl) ?_
       refine GI_call { callee := (Callee.value (Operand.func 24)), args := #[(Operand.tmp 125), (Operand.tmp 126)], argTypes := #[3, 3] } 24 #[nt m, nt level] (some 127) (by kernel_rfl) (by kernel_rfl) (by kernel_rfl) (by kernel_rfl) (rVotes_spec m level _) ?_
       rintro _ w163 ⟨rfl, rfl⟩
       refine ⟨_, rfl, K167, ?_⟩
       have hcv9 := cv_bnd (n := m) (level := level) (B := 1000) (by omega) (by omega) (by decide) (by omega)
       refine GI_agg 43 (.tmp 14) 0 [nt 100, nt (n + (cvVotes m level)), nt 100] (some 123) (by kernel_rfl) (by kernel_rfl) (by kernel_rfl) qhb155_160 (fun f => f) (m := 3) (by kernel_rfl) rfl rfl ?_
       have hw173 : IntKind.i64.wrap (n + (cvVotes m level)) = n + (cvVotes m level) := (wrap64_id (by omega) (by omega)).trans (by omega)
       refine GI_static [26, 27, 28, 29, 30, 31, 32] [(122, .bool true), (123, .agg #[nt 100, nt (n + (cvVotes m level)), nt 100]), (128, nt (IntKind.i64.wrap (n + (cvVotes m level))))] (by kernel_rfl) ?_
       refine GI_eq [(122, .bool true), (123, .agg #[nt 100, nt (n + (cvVotes m level)), nt 100]), (128, nt (n + (cvVotes m level)))] (by rw [hw173]) ?_
       refine GI_static [27, 28, 29, 30, 31, 32] [(122, .bool true), (123, .agg #[nt 100, nt (n + (cvVotes m level)), nt 100]), (129, .agg #[nt 100, nt (n + (cvVotes m level)), nt 100])] (by kernel_rfl) ?_
       refine GI_pure (some 130) ((Op.binOp BinOp.eql 43 (Operand.tmp 123) (Operand.tmp 129) 43)) (by kernel_rfl) (by kernel_rfl) (pure_eql_same (xs := [nt 100, nt (n + (cvVotes m level)), nt 100]) (by kernel_rfl) (by kernel_rfl) (by kernel_rfl) (by kernel_rfl)) ?_
       refine GI_static [30, 31, 32] [(132, .bool true)] (by kernel_rfl) ?_
       refine GI_call0 { callee := (Callee.value (Operand.func 22)), args := #[], argTypes := #[] } 22 #[] (some 133) (by kernel_rfl) (by kernel_rfl) (by kernel_rfl) (by kernel_rfl) (by kernel_rfl) (known_spec _) ?_
       rintro _ w174 ⟨rfl, hk175⟩
       refine ⟨_, rfl, ?_⟩
       have hsz176 := Keep.size hk175
       replace hK0 := Keep.tr hK0 (Keep.ofNone hk175)
       replace ho141 := VotT.keep ho141 hk175 (fun _ _ f => f)
       replace ho144 := Led.keep ho144 hk175 (fun _ _ f => f)
       refine GI_static [] [(6, .bool true)] (by kernel_rfl) ?_
       refine GI_end ?_
       refine X_then ?_
       refine V_ret ?_
       exact X_return (.bool true) rfl ⟨rfl, hK0⟩
end Go.Al

