/-
  Put together out of 9 texts: Walks of package voting: Delegate. Walks of package voting: New; the voting with its tracks. Walks of the laws of voting: the document's answer to chapter 5. Walks of the laws of voting: all votes. Walks of the laws of voting: a beginning. The laws of voting: locks; what succeeds. Walks of the laws of voting: what is lent counts. The laws of voting: a vote that is cast anew. Walks of the laws of voting: a vote that is cast anew.
-/
import Derived.Test.YtglgnmoglbbkmaaGreatVotingTwiceB4
namespace Go.Al
open Go Go.RowKit Go.Proofs
set_option maxRecDepth 10000 in
set_option maxHeartbeats 1000000 in
theorem delegate_at (F G : Nat → Prop) (v l : Nat) (P : VP) (s : VS) (xs : List Acc) (cs : List Ci) (who t to level n : Int) (w : World) (h : Vot F w v P s) (hl : Led G w l xs cs) (hdis : ∀ q, F q → ¬ G q) (hmax : cs.length < 100000) : Calls Tryz.prog 17 #[.pointer (some ⟨v, 0, none⟩), .pointer (some ⟨l, 0, none⟩), .int .i64 who, .int .i64 t, .int .i64 to, .int .i64 level, .int .i64 n] w fun e w' => e = .returned (.int .i64 (delE xs s who t to level n)) ∧ (∃ F' G', VotE F' w' v (delS xs s who t to level n) ∧ Led G' w' l xs (delC2 xs cs s who t to level n) ∧ (∀ q, F' q → F q ∨ w.heap.size ≤ q) ∧ (∀ q, G' q → G q ∨ w.heap.size ≤ q) ∧ (∀ q, F' q → ¬ G' q)) ∧ Keep (fun q => F q ∨ G q) w w' := by
 have hFlt := Vot.lt h
 have hvlt := hFlt _ (Vot.at_ h)
 have hFo : ∀ q, F q → 0 ≤ q := fun q _ => Nat.zero_le q
 have hFr : ∀ q, F q → F q ∨ w.heap.size ≤ q := fun _ h => .inl h
 have hGlt := Led.lt hl
 have hllt := hGlt _ (Led.at_ hl)
 have hGo : ∀ q, G q → 0 ≤ q := fun q _ => Nat.zero_le q
 have hGr : ∀ q, G q → G q ∨ w.heap.size ≤ q := fun _ h => .inl h
 have hK0 : Keep (fun q => F q ∨ G q) w w := Keep.refl _ _
 have hzhK0 := Keep.size hK0
 refine enterV Tryz.func17 rfl [pt v, pt l, nt who, nt t, nt to, nt level, nt n] 96 rfl rfl rfl ?_
 refine V_pick [(0, pt v), (1, pt l), (2, nt who), (3, nt t), (4, nt to), (5, nt level), (6, nt n)] rfl ?_
 refine V_seq ?_
 refine V_region ?_
 refine OI_static 1 [(0, pt v), (1, pt l), (2, nt who), (3, nt t), (4, nt to), (5, nt level), (6, nt n)] (by kernel_rfl) ?_
 refine OI_end rfl ?_
 refine X_then ?_
 refine V_seq ?_
 refine V_seq ?_
 refine V_region ?_
 refine OI_static 8 [(0, pt v), (1, pt l), (2, nt who), (3, nt t), (4, nt to), (5, nt level), (6, nt n), (22, .bool false), (23, nt who)] (by kernel_rfl) ?_
 refine OI_call { callee := (Callee.value (Operand.func 47)), args := #[(Operand.tmp 23)], argTypes := #[3] } 47 #[nt who] (some 24) (by kernel_rfl) (by kernel_rfl) (by kernel_rfl) (isAcc_spec who _) ?_
 rintro _ w ⟨rfl, rfl⟩
 refine ⟨_, rfl, ?_⟩
 refine OI_static 12 [(0, pt v), (1, pt l), (2, nt who), (3, nt t), (4, nt to), (5, nt level), (6, nt n), (27, .bool (!(decide (0 ≤ who ∧ who ≤ 9))))] (by kernel_rfl) ?_
 by_cases hg6 : 0 ≤ who ∧ who ≤ 9
 ·
  refine OI_eq [(0, pt v), (1, pt l), (2, nt who), (3, nt t), (4, nt to), (5, nt level), (6, nt n), (27, .bool false)] (by first | simp [hg6] | rfl) ?_
  refine OI_static 13 [(0, pt v), (1, pt l), (2, nt who), (3, nt t), (4, nt to), (5, nt level), (6, nt n), (27, .bool false), (28, nt to)] (by kernel_rfl) ?_
  refine OI_call { callee := (Callee.value (Operand.func 47)), args := #[(Operand.tmp 28)], argTypes := #[3] } 47 #[nt to] (some 29) (by kernel_rfl) (by kernel_rfl) (by kernel_rfl) (isAcc_spec to _) ?_
  rintro _ w ⟨rfl, rfl⟩
  refine ⟨_, rfl, ?_⟩
  refine OI_static 17 [(0, pt v), (1, pt l), (2, nt who), (3, nt t), (4, nt to), (5, nt level), (6, nt n), (32, .bool (!(decide (0 ≤ to ∧ to ≤ 9))))] (by kernel_rfl) ?_
  by_cases hg12 : 0 ≤ to ∧ to ≤ 9
  ·
   refine OI_eq [(0, pt v), (1, pt l), (2, nt who), (3, nt t), (4, nt to), (5, nt level), (6, nt n), (32, .bool false)] (by first | simp [hg12] | rfl) ?_
   refine OI_static 18 [(0, pt v), (1, pt l), (2, nt who), (3, nt t), (4, nt to), (5, nt level), (6, nt n), (32, .bool false), (33, nt t)] (by kernel_rfl) ?_
   refine OI_call { callee := (Callee.value (Operand.func 45)), args := #[(Operand.tmp 33)], argTypes := #[3] } 45 #[nt t] (some 34) (by kernel_rfl) (by kernel_rfl) (by kernel_rfl) (isTrk_spec t _) ?_
   rintro _ w ⟨rfl, rfl⟩
   refine ⟨_, rfl, ?_⟩
   refine OI_static 22 [(0, pt v), (1, pt l), (2, nt who), (3, nt t), (4, nt to), (5, nt level), (6, nt n), (37, .bool (!(decide (0 ≤ t ∧ t ≤ 3))))] (by kernel_rfl) ?_
   by_cases hg18 : 0 ≤ t ∧ t ≤ 3
   ·
    refine OI_eq [(0, pt v), (1, pt l), (2, nt who), (3, nt t), (4, nt to), (5, nt level), (6, nt n), (37, .bool false)] (by first | simp [hg18] | rfl) ?_
    refine OI_static 23 [(0, pt v), (1, pt l), (2, nt who), (3, nt t), (4, nt to), (5, nt level), (6, nt n), (37, .bool false), (38, nt level)] (by kernel_rfl) ?_
    refine OI_call { callee := (Callee.value (Operand.func 44)), args := #[(Operand.tmp 38), (Operand.const (Value.int IntKind.i64 0)), (Operand.const (Value.int IntKind.i64 6))], argTypes := #[3, 3, 3] } 44 #[nt level, nt 0, nt 6] (some 39) (by kernel_rfl) (by kernel_rfl) (by kernel_rfl) (vIn_spec level 0 6 _) ?_
    rintro _ w ⟨rfl, rfl⟩
    refine ⟨_, rfl, ?_⟩
    refine OI_static 27 [(0, pt v), (1, pt l), (2, nt who), (3, nt t), (4, nt to), (5, nt level), (6, nt n), (42, .bool (!(decide ((0 : Int) ≤ level ∧ level ≤ 6))))] (by kernel_rfl) ?_
    by_cases hg24 : (0 : Int) ≤ level ∧ level ≤ 6
    ·
     refine OI_eq [(0, pt v), (1, pt l), (2, nt who), (3, nt t), (4, nt to), (5, nt level), (6, nt n), (42, .bool false)] (by first | simp [hg24] | rfl) ?_
     refine OI_static 28 [(0, pt v), (1, pt l), (2, nt who), (3, nt t), (4, nt to), (5, nt level), (6, nt n), (42, .bool false), (43, nt n)] (by kernel_rfl) ?_
     refine OI_call { callee := (Callee.value (Operand.func 44)), args := #[(Operand.tmp 43), (Operand.const (Value.int IntKind.i64 0)), (Operand.const (Value.int IntKind.i64 1073741824))], argTypes := #[3, 3, 3] } 44 #[nt n, nt 0, nt 1073741824] (some 44) (by kernel_rfl) (by kernel_rfl) (by kernel_rfl) (vIn_spec n 0 1073741824 _) ?_
     rintro _ w ⟨rfl, rfl⟩
     refine ⟨_, rfl, ?_⟩
     refine OI_static 32 [(0, pt v), (1, pt l), (2, nt who), (3, nt t), (4, nt to), (5, nt level), (6, nt n), (47, .bool (!(decide ((0 : Int) ≤ n ∧ n ≤ 1073741824))))] (by kernel_rfl) ?_
     by_cases hg30 : (0 : Int) ≤ n ∧ n ≤ 1073741824
     ·
      refine OI_eq [(0, pt v), (1, pt l), (2, nt who), (3, nt t), (4, nt to), (5, nt level), (6, nt n), (47, .bool false)] (by first | simp [hg30] | rfl) ?_
      refine OI_static 36 [(0, pt v), (1, pt l), (2, nt who), (3, nt t), (4, nt to), (5, nt level), (6, nt n), (51, .bool (decide (who = to)))] (by kernel_rfl) ?_
      refine OI_end rfl ?_
      refine X_then ?_
      refine V_if (who = to) (by kernel_rfl) (fun hc31 => ?_) (fun hc31 => ?_)
      ·
       refine V_seq ?_
       refine V_region ?_
       refine OI_static 1 [(14, nt 1)] (by kernel_rfl) ?_
       refine OI_end rfl ?_
       refine X_then ?_
       refine V_ret ?_
       refine X_ret_then ?_
       have hE32 : delE xs s who t to level n = 1 := by unfold delE; rw [if_pos (.inr (.inr (.inr (.inr (.inr ((fun h9 => h9 hc31)))))))]
       exact X_return (nt 1) rfl ⟨by rw [hE32], ⟨F, G, ⟨_, by rw [show delS xs s who t to level n = s from by unfold delS; rw [hE32, if_neg (by decide)]]; exact h⟩, by rw [show delC2 xs cs s who t to level n = cs from by unfold delC2; rw [hE32, if_neg (by decide)]]; exact hl, hFr, hGr, hdis⟩, hK0⟩
      ·
       refine V_skip ?_
       refine X_then ?_
       refine V_seq ?_
       refine V_region ?_
       refine OI_static 3 [(0, pt v), (1, pt l), (2, nt who), (3, nt t), (4, nt to), (5, nt level), (6, nt n), (52, pt v), (53, nt who), (54, nt t)] (by kernel_rfl) ?_
       rcases hd33 : (s.rc who t).d with _ | d34
       ·
        refine OI_call { callee := (Callee.value (Operand.func 48)), args := #[(Operand.tmp 52), (Operand.tmp 53), (Operand.tmp 54)], argTypes := #[31, 3, 3] } 48 #[pt v, nt who, nt t] (some 55) (by kernel_rfl) (by kernel_rfl) (by kernel_rfl) (record_spec F v P s who t _ h (by omega) (by omega)) ?_
        rintro _ w49 ⟨q39, P40, rfl, hgc44, hpp45, hgv46, hmn47, hdl48, ⟨F41, ho42, hfr43⟩, hk50⟩
        refine ⟨_, rfl, ?_⟩
        have hsz51 := Keep.size hk50
        replace hl := Led.keep hl hk50 (fun q hq hs => hdis q hs hq)
        replace hK0 := Keep.fresh hK0 hk50 (fun i hi hs => by rcases hFr i hs with h | h; exact .inl h; (exfalso; omega))
        have own53 : ∀ q, F41 q → 0 ≤ q := fun q hq => by rcases hfr43 q hq with h | h; (have h1 := hFo q h; have h2 := hFlt q h; omega); omega
        have lt52 := Vot.lt ho42
        have rel54 : ∀ q, F41 q → F q ∨ w.heap.size ≤ q := fun q hq => by rcases hfr43 q hq with h | h; exact hFr q h; exact .inr (by omega)
        have dis55 : ∀ q, F41 q → ¬ G q := fun q h1 h2 => by rcases hfr43 q h1 with h | h; exact hdis q h h2; (have h4 := hGlt q h2; omega)
        have hgq39lt := lt52 _ (Vot.at_ ho42)
        obtain ⟨hF57, hm56⟩ := Vot.recN ho42 hgc44 hd33
        have hq39lt := hm56.lt
        have hloq39 := lt52 _ hF57
        have hoq39 := own53 _ hF57
        refine OI_static 5 [(0, pt v), (1, pt l), (2, nt who), (3, nt t), (4, nt to), (5, nt level), (6, nt n), (15, pt q39)] (by kernel_rfl) ?_
        refine OI_end rfl ?_
        refine X_then ?_
        refine V_seq ?_
        refine V_block ?_
        refine V_seq ?_
        refine V_region ?_
        refine OI_static 3 [(0, pt v), (1, pt l), (2, nt who), (3, nt t), (4, nt to), (5, nt level), (6, nt n), (15, pt q39), (59, pt q39)] (by kernel_rfl) ?_
        refine OI_cell 97 (.tmp 59) 0 (.pointer none) (some 60) (by kernel_rfl) (by kernel_rfl) hm56 (m := 1) (by kernel_rfl) rfl ?_
        refine OI_static 6 [(0, pt v), (1, pt l), (2, nt who), (3, nt t), (4, nt to), (5, nt level), (6, nt n), (15, pt q39), (56, .bool false)] (by kernel_rfl) ?_
        refine OI_end rfl ?_
        refine X_then ?_
        refine V_false rfl ?_
        refine V_seq ?_
        refine V_region ?_
        refine OI_static 3 [(0, pt v), (1, pt l), (2, nt who), (3, nt t), (4, nt to), (5, nt level), (6, nt n), (15, pt q39), (63, pt v), (64, nt who), (65, nt t)] (by kernel_rfl) ?_
        refine OI_call { callee := (Callee.value (Operand.func 49)), args := #[(Operand.tmp 63), (Operand.tmp 64), (Operand.tmp 65)], argTypes := #[31, 3, 3] } 49 #[pt v, nt who, nt t] (some 66) (by kernel_rfl) (by kernel_rfl) (by kernel_rfl) (count_spec F41 v P40 s who t _ ho42) ?_
        rintro _ w60 ⟨rfl, hk61⟩
        refine ⟨_, rfl, ?_⟩
        have hsz62 := Keep.size hk61
        replace hm56 := hm56.keep hk61 (fun f => f)
        replace hl := Led.keep hl hk61 (fun _ _ f => f)
        replace hK0 := Keep.tr hK0 (Keep.ofNone hk61)
        replace ho42 := Vot.keep ho42 hk61 (fun _ _ f => f)
        refine OI_static 6 [(0, pt v), (1, pt l), (2, nt who), (3, nt t), (4, nt to), (5, nt level), (6, nt n), (15, pt q39), (62, .bool (decide ((((vrow s who t).length : Nat) : Int) > 0)))] (by kernel_rfl) ?_
        refine OI_end rfl ?_
        refine X_then ?_
        refine V_if ((((vrow s who t).length : Nat) : Int) > 0) (by kernel_rfl) (fun hc63 => ?_) (fun hc63 => ?_)
        ·
         refine V_seq ?_
         refine V_region ?_
         refine OI_static 1 [(14, nt 9)] (by kernel_rfl) ?_
         refine OI_end rfl ?_
         refine X_then ?_
         refine V_ret ?_
         refine X_ret_block ?_
         refine X_ret_then ?_
         have hE64 : delE xs s who t to level n = 9 := by unfold delE; rw [if_neg (by rintro (h9 | h9 | h9 | h9 | h9 | h9); exact h9 hg6; exact h9 hg12; exact h9 hg18; exact h9 hg24; exact h9 hg30; exact h9 hc31)]; rw [if_neg (by rw [hd33]; decide)]; rw [if_pos hc63]
         exact X_return (nt 9) rfl ⟨by rw [hE64], ⟨F41, G, ⟨_, by rw [show delS xs s who t to level n = s from by unfold delS; rw [hE64, if_neg (by decide)]]; exact ho42⟩, by rw [show delC2 xs cs s who t to level n = cs from by unfold delC2; rw [hE64, if_neg (by decide)]]; exact hl, rel54, hGr, dis55⟩, hK0⟩
        ·
         refine V_seq ?_
         refine V_region ?_
         refine OI_static 3 [(0, pt v), (1, pt l), (2, nt who), (3, nt t), (4, nt to), (5, nt level), (6, nt n), (15, pt q39), (69, nt n), (70, pt l), (71, nt who)] (by kernel_rfl) ?_
         refine OI_call { callee := (Callee.value (Operand.func 38)), args := #[(Operand.tmp 70), (Operand.tmp 71)], argTypes := #[30, 3] } 38 #[pt l, nt who] (some 72) (by kernel_rfl) (by kernel_rfl) (by kernel_rfl) (free_spec G l xs cs who _ hl) ?_
         rintro _ w65 ⟨rfl, hk66⟩
         refine ⟨_, rfl, ?_⟩
         have hsz67 := Keep.size hk66
         replace hm56 := hm56.keep hk66 (fun f => f)
         replace hl := Led.keep hl hk66 (fun _ _ f => f)
         replace hK0 := Keep.tr hK0 (Keep.ofNone hk66)
         replace ho42 := Vot.keep ho42 hk66 (fun _ _ f => f)
         refine OI_static 6 [(0, pt v), (1, pt l), (2, nt who), (3, nt t), (4, nt to), (5, nt level), (6, nt n), (15, pt q39), (68, .bool (decide (n > (acct xs who).free)))] (by kernel_rfl) ?_
         refine OI_end rfl ?_
         refine X_then ?_
         refine V_if (n > (acct xs who).free) (by kernel_rfl) (fun hc68 => ?_) (fun hc68 => ?_)
         ·
          refine V_seq ?_
          refine V_region ?_
          refine OI_static 1 [(14, nt 6)] (by kernel_rfl) ?_
          refine OI_end rfl ?_
          refine X_then ?_
          refine V_ret ?_
          refine X_ret_block ?_
          refine X_ret_then ?_
          have hE69 : delE xs s who t to level n = 6 := by unfold delE; rw [if_neg (by rintro (h9 | h9 | h9 | h9 | h9 | h9); exact h9 hg6; exact h9 hg12; exact h9 hg18; exact h9 hg24; exact h9 hg30; exact h9 hc31)]; rw [if_neg (by rw [hd33]; decide)]; rw [if_neg hc63]; rw [if_pos hc68]
          exact X_return (nt 6) rfl ⟨by rw [hE69], ⟨F41, G, ⟨_, by rw [show delS xs s who t to level n = s from by unfold delS; rw [hE69, if_neg (by decide)]]; exact ho42⟩, by rw [show delC2 xs cs s who t to level n = cs from by unfold delC2; rw [hE69, if_neg (by decide)]]; exact hl, rel54, hGr, dis55⟩, hK0⟩
         ·
          refine V_skip ?_
          refine X_block ?_
          refine X_then ?_
          refine V_seq ?_
          refine V_region ?_
          refine OI_static 5 [(0, pt v), (1, pt l), (2, nt who), (3, nt t), (4, nt to), (5, nt level), (6, nt n), (74, pt q39), (78, .agg #[nt to, nt level, nt n])] (by kernel_rfl) ?_
          refine OI_box 101 (.tmp 78) (.agg #[nt to, nt level, nt n]) [nt to, nt level, nt n] (some 79) (by kernel_rfl) (by kernel_rfl) (by kernel_rfl) ?_
          intro b70 w70 e70 hb70 k70 z70
          have hsz71 := Keep.size k70
          replace hm56 := hm56.keep k70 (fun f => f)
          replace hl := Led.keep hl k70 (fun _ _ f => f)
          replace hK0 := Keep.tr hK0 (Keep.ofNone k70)
          replace ho42 := Vot.keep ho42 k70 (fun _ _ f => f)
          have hb70lt := hb70.lt
          refine OI_static 8 [(0, pt v), (1, pt l), (2, nt who), (3, nt t), (4, nt to), (5, nt level), (6, nt n), (79, pt b70), (81, pt q39)] (by kernel_rfl) ?_
          have hF076 : ¬ F41 b70 := fun hh => by have h9 := lt52 _ hh; omega
          refine OI_set (m := 1) (kd := false) 97 (.tmp 81) (.tmp 79) 0 (pt b70) [pt b70] none (by kernel_rfl) (by kernel_rfl) (by kernel_rfl) hm56 (by kernel_rfl) (by kernel_rfl) (by kernel_rfl) (Nat.le_of_ble_eq_true (by kernel_rfl)) (by simp [Value.oneCell']) ?_
          intro w72 hn75 hk73 hz74
          replace hn75 : Blk w72 q39 [pt b70, nt (((s.rc who t)).got.v), nt (((s.rc who t)).got.c), nt (((s.rc who t)).till), nt (((s.rc who t)).n)] 99 := hn75
          have hsz77 := Keep.size hk73
          replace hl := Led.keep hl hk73 (fun q hq hs => (fun q h1 h2 => dis55 q h2 h1) q hq (by rw [show q = q39 from hs]; exact hF57))
          replace hK0 := Keep.fresh hK0 hk73 (fun i hi hs => by have hs : F41 i := (by rw [show i = q39 from hs]; exact hF57); rcases rel54 i hs with h | h; exact .inl h; (exfalso; omega))
          obtain ⟨F79, ho78, hfd80⟩ := Vot.setDelE (a := who) (t := t) (r' := { (s.rc who t) with d := some (DelS.mk to level n) }) (d := (DelS.mk to level n)) ho42 hgc44 hm56 hb70 hF076 hk73 (show Blk _ _ (RecS.cells (some ⟨b70, 0, none⟩) { (s.rc who t) with d := some (DelS.mk to level n) }) _ from hn75) rfl (by intro d hd; simp only [Option.some.injEq] at hd; subst hd; simp only []; omega)
          have hfr81 : ∀ q, F79 q → F41 q ∨ w65.heap.size ≤ q := fun q hq => (hfd80 q hq).imp id (fun h => by omega)
          have own83 : ∀ q, F79 q → 0 ≤ q := fun q hq => by rcases hfr81 q hq with h | h; (have h1 := own53 q h; have h2 := lt52 q h; omega); omega
          have lt82 := Vot.lt ho78
          have rel84 : ∀ q, F79 q → F q ∨ w.heap.size ≤ q := fun q hq => by rcases hfr81 q hq with h | h; exact rel54 q h; exact .inr (by omega)
          have dis85 : ∀ q, F79 q → ¬ G q := fun q h1 h2 => by rcases hfr81 q h1 with h | h; exact dis55 q h h2; (have h4 := hGlt q h2; omega)
          obtain ⟨bd88, hF87, hF89, hm86, hm90⟩ := Vot.recD ho78 hgc44 (by rw [show (s.setR who t { (s.rc who t) with d := some (DelS.mk to level n) }).rc who t = { (s.rc who t) with d := some (DelS.mk to level n) } from (updR_self _ _ _ _)]; first | done | exact rfl)
          have hbd88lt := hm90.lt
          have hlobd88 := lt82 _ hF89
          have hobd88 := own83 _ hF89
          rw [show (s.setR who t { (s.rc who t) with d := some (DelS.mk to level n) }).rc who t = { (s.rc who t) with d := some (DelS.mk to level n) } from (updR_self _ _ _ _)] at hm86
          have hq39lt := hm86.lt
          have hloq39 := lt82 _ hF87
          have hoq39 := own83 _ hF87
          have hnebd88q39 : bd88 ≠ q39 := Blk.ne hm90 hm86 (by decide)
          refine OI_end rfl ?_
          refine X_then ?_
          refine V_seq ?_
          refine V_region ?_
          refine OI_static 5 [(1, pt l), (2, nt who), (3, nt t), (6, nt n), (82, pt v), (83, nt to), (84, nt t), (85, nt n), (86, nt level)] (by kernel_rfl) ?_
          refine OI_call { callee := (Callee.value (Operand.func 51)), args := #[(Operand.tmp 85), (Operand.tmp 86)], argTypes := #[3, 3] } 51 #[nt n, nt level] (some 87) (by kernel_rfl) (by kernel_rfl) (by kernel_rfl) (cvVotes_spec n level _) ?_
          rintro _ w72 ⟨rfl, rfl⟩
          refine ⟨_, rfl, ?_⟩
          refine OI_static 8 [(1, pt l), (2, nt who), (3, nt t), (6, nt n), (82, pt v), (83, nt to), (84, nt t), (89, .agg #[nt (cvVotes n level), nt n])] (by kernel_rfl) ?_
          refine OI_call { callee := (Callee.value (Operand.func 50)), args := #[(Operand.tmp 82), (Operand.tmp 83), (Operand.tmp 84), (Operand.tmp 89)], argTypes := #[31, 3, 3, 54] } 50 #[pt v, nt to, nt t, .agg #[nt (cvVotes n level), nt n]] (some 90) (by kernel_rfl) (by kernel_rfl) (by kernel_rfl) (gets_spec F79 v P40 (s.setR who t { (s.rc who t) with d := some (DelS.mk to level n) }) to t (Wgt.mk (cvVotes n level) n) _ ho78 (by omega) (by omega)) ?_
          rintro _ w98 ⟨rfl, P100, hpp104, hgv105, hmn106, hdl107, ⟨F101, ho102, hfr103⟩, hk99⟩
          refine ⟨_, rfl, ?_⟩
          have hsz108 := Keep.size hk99
          replace hl := Led.keep hl hk99 (fun q hq hs => dis85 q hs hq)
          replace hK0 := Keep.fresh hK0 hk99 (fun i hi hs => by rcases rel84 i hs with h | h; exact .inl h; (exfalso; omega))
          have own110 : ∀ q, F101 q → 0 ≤ q := fun q hq => by rcases hfr103 q hq with h | h; (have h1 := own83 q h; have h2 := lt82 q h; omega); omega
          have lt109 := Vot.lt ho102
          have rel111 : ∀ q, F101 q → F q ∨ w.heap.size ≤ q := fun q hq => by rcases hfr103 q hq with h | h; exact rel84 q h; exact .inr (by omega)
          have dis112 : ∀ q, F101 q → ¬ G q := fun q h1 h2 => by rcases hfr103 q h1 with h | h; exact dis85 q h h2; (have h4 := hGlt q h2; omega)
          have hqq39w98 := hmn106 _ _ _ hgc44
          refine OI_end rfl ?_
          refine X_then ?_
          refine V_seq ?_
          refine V_region ?_
          refine OI_static 4 [(91, pt l), (92, nt who), (93, nt t), (94, nt n)] (by kernel_rfl) ?_
          refine OI_call { callee := (Callee.value (Operand.func 52)), args := #[(Operand.tmp 91), (Operand.tmp 92), (Operand.tmp 93), (Operand.tmp 94)], argTypes := #[30, 3, 3, 3] } 52 #[pt l, nt who, nt t, nt n] (some 95) (by kernel_rfl) (by kernel_rfl) (by kernel_rfl) (raise_spec G l xs cs who t n _ hl hmax) ?_
          rintro _ w115 ⟨rfl, ⟨F117, ho118, hfr119⟩, hk116⟩
          refine ⟨_, rfl, ?_⟩
          have hsz120 := Keep.size hk116
          replace hK0 := Keep.fresh hK0 hk116 (fun i hi hs => by rcases hGr i hs with h | h; exact .inr h; (exfalso; omega))
          replace ho102 := Vot.keep ho102 hk116 (fun q hq hs => (fun q h1 h2 => dis112 q h2 h1) q hs hq)
          have own122 : ∀ q, F117 q → 0 ≤ q := fun q hq => by rcases hfr119 q hq with h | h; (have h1 := hGo q h; have h2 := hGlt q h; omega); omega
          have lt121 := Led.lt ho118
          have rel123 : ∀ q, F117 q → G q ∨ w.heap.size ≤ q := fun q hq => by rcases hfr119 q hq with h | h; exact hGr q h; exact .inr (by omega)
          have dis124 : ∀ q, F117 q → ¬ F101 q := fun q h1 h2 => by rcases hfr119 q h1 with h | h; exact (fun q h1 h2 => dis112 q h2 h1) q h h2; (have h4 := lt109 q h2; omega)
          refine OI_end rfl ?_
          refine X_then ?_
          refine V_seq ?_
          refine V_region ?_
          refine OI_static 1 [(14, nt 0)] (by kernel_rfl) ?_
          refine OI_end rfl ?_
          refine X_then ?_
          refine V_ret ?_
          have hE125 : delE xs s who t to level n = 0 := by unfold delE; rw [if_neg (by rintro (h9 | h9 | h9 | h9 | h9 | h9); exact h9 hg6; exact h9 hg12; exact h9 hg18; exact h9 hg24; exact h9 hg30; exact h9 hc31)]; rw [if_neg (by rw [hd33]; decide)]; rw [if_neg hc63]; rw [if_neg hc68]
          exact X_return (nt 0) rfl ⟨by rw [hE125], ⟨F101, F117, ⟨_, by rw [show delS xs s who t to level n = (getsS (s.setR who t { (s.rc who t) with d := some (DelS.mk to level n) }) to t (Wgt.mk (cvVotes n level) n)) from by unfold delS; rw [hE125, if_pos rfl]]; exact ho102⟩, by rw [show delC2 xs cs s who t to level n = raiseC cs who t n from by unfold delC2; rw [hE125, if_pos rfl]]; exact ho118, rel111, rel123, (fun q h1 h2 => dis124 q h2 h1)⟩, hK0⟩
       ·
        refine OI_call { callee := (Callee.value (Operand.func 48)), args := #[(Operand.tmp 52), (Operand.tmp 53), (Operand.tmp 54)], argTypes := #[31, 3, 3] } 48 #[pt v, nt who, nt t] (some 55) (by kernel_rfl) (by kernel_rfl) (by kernel_rfl) (record_spec F v P s who t _ h (by omega) (by omega)) ?_
        rintro _ w140 ⟨q130, P131, rfl, hgc135, hpp136, hgv137, hmn138, hdl139, ⟨F132, ho133, hfr134⟩, hk141⟩
        refine ⟨_, rfl, ?_⟩
        have hsz142 := Keep.size hk141
        replace hl := Led.keep hl hk141 (fun q hq hs => hdis q hs hq)
        replace hK0 := Keep.fresh hK0 hk141 (fun i hi hs => by rcases hFr i hs with h | h; exact .inl h; (exfalso; omega))
        have own144 : ∀ q, F132 q → 0 ≤ q := fun q hq => by rcases hfr134 q hq with h | h; (have h1 := hFo q h; have h2 := hFlt q h; omega); omega
        have lt143 := Vot.lt ho133
        have rel145 : ∀ q, F132 q → F q ∨ w.heap.size ≤ q := fun q hq => by rcases hfr134 q hq with h | h; exact hFr q h; exact .inr (by omega)
        have dis146 : ∀ q, F132 q → ¬ G q := fun q h1 h2 => by rcases hfr134 q h1 with h | h; exact hdis q h h2; (have h4 := hGlt q h2; omega)
        have hgq130lt := lt143 _ (Vot.at_ ho133)
        obtain ⟨bd149, hF148, hF150, hm147, hm151⟩ := Vot.recD ho133 hgc135 hd33
        have hbd149lt := hm151.lt
        have hlobd149 := lt143 _ hF150
        have hobd149 := own144 _ hF150
        have hq130lt := hm147.lt
        have hloq130 := lt143 _ hF148
        have hoq130 := own144 _ hF148
        have hnebd149q130 : bd149 ≠ q130 := Blk.ne hm151 hm147 (by decide)
        refine OI_static 5 [(0, pt v), (1, pt l), (2, nt who), (3, nt t), (4, nt to), (5, nt level), (6, nt n), (15, pt q130)] (by kernel_rfl) ?_
        refine OI_end rfl ?_
        refine X_then ?_
        refine V_seq ?_
        refine V_block ?_
        refine V_seq ?_
        refine V_region ?_
        refine OI_static 3 [(0, pt v), (1, pt l), (2, nt who), (3, nt t), (4, nt to), (5, nt level), (6, nt n), (15, pt q130), (59, pt q130)] (by kernel_rfl) ?_
        refine OI_cell 97 (.tmp 59) 0 (pt bd149) (some 60) (by kernel_rfl) (by kernel_rfl) hm147 (m := 1) (by kernel_rfl) rfl ?_
        refine OI_static 6 [(0, pt v), (1, pt l), (2, nt who), (3, nt t), (4, nt to), (5, nt level), (6, nt n), (15, pt q130), (56, .bool true)] (by kernel_rfl) ?_
        refine OI_end rfl ?_
        refine X_then ?_
        refine V_true rfl ?_
        refine V_seq ?_
        refine V_region ?_
        refine OI_static 1 [(14, nt 5)] (by kernel_rfl) ?_
        refine OI_end rfl ?_
        refine X_then ?_
        refine V_ret ?_
        refine X_ret_block ?_
        refine X_ret_then ?_
        have hE152 : delE xs s who t to level n = 5 := by unfold delE; rw [if_neg (by rintro (h9 | h9 | h9 | h9 | h9 | h9); exact h9 hg6; exact h9 hg12; exact h9 hg18; exact h9 hg24; exact h9 hg30; exact h9 hc31)]; rw [if_pos (by rw [hd33]; rfl)]
        exact X_return (nt 5) rfl ⟨by rw [hE152], ⟨F132, G, ⟨_, by rw [show delS xs s who t to level n = s from by unfold delS; rw [hE152, if_neg (by decide)]]; exact ho133⟩, by rw [show delC2 xs cs s who t to level n = cs from by unfold delC2; rw [hE152, if_neg (by decide)]]; exact hl, rel145, hGr, dis146⟩, hK0⟩
     ·
      refine OI_eq [(0, pt v), (1, pt l), (2, nt who), (3, nt t), (4, nt to), (5, nt level), (6, nt n), (47, .bool true)] (by first | simp [hg30] | rfl) ?_
      refine OI_static 36 [(0, pt v), (1, pt l), (2, nt who), (3, nt t), (4, nt to), (5, nt level), (6, nt n), (51, .bool true)] (by kernel_rfl) ?_
      refine OI_end rfl ?_
      refine X_then ?_
      refine V_true rfl ?_
      refine V_seq ?_
      refine V_region ?_
      refine OI_static 1 [(14, nt 1)] (by kernel_rfl) ?_
      refine OI_end rfl ?_
      refine X_then ?_
      refine V_ret ?_
      refine X_ret_then ?_
      have hE153 : delE xs s who t to level n = 1 := by unfold delE; rw [if_pos (.inr (.inr (.inr (.inr (.inl hg30)))))]
      exact X_return (nt 1) rfl ⟨by rw [hE153], ⟨F, G, ⟨_, by rw [show delS xs s who t to level n = s from by unfold delS; rw [hE153, if_neg (by decide)]]; exact h⟩, by rw [show delC2 xs cs s who t to level n = cs from by unfold delC2; rw [hE153, if_neg (by decide)]]; exact hl, hFr, hGr, hdis⟩, hK0⟩
    ·
     refine OI_eq [(0, pt v), (1, pt l), (2, nt who), (3, nt t), (4, nt to), (5, nt level), (6, nt n), (42, .bool true)] (by first | simp [hg24] | rfl) ?_
     refine OI_static 36 [(0, pt v), (1, pt l), (2, nt who), (3, nt t), (4, nt to), (5, nt level), (6, nt n), (51, .bool true)] (by kernel_rfl) ?_
     refine OI_end rfl ?_
     refine X_then ?_
     refine V_true rfl ?_
     refine V_seq ?_
     refine V_region ?_
     refine OI_static 1 [(14, nt 1)] (by kernel_rfl) ?_
     refine OI_end rfl ?_
     refine X_then ?_
     refine V_ret ?_
     refine X_ret_then ?_
     have hE154 : delE xs s who t to level n = 1 := by unfold delE; rw [if_pos (.inr (.inr (.inr (.inl hg24))))]
     exact X_return (nt 1) rfl ⟨by rw [hE154], ⟨F, G, ⟨_, by rw [show delS xs s who t to level n = s from by unfold delS; rw [hE154, if_neg (by decide)]]; exact h⟩, by rw [show delC2 xs cs s who t to level n = cs from by unfold delC2; rw [hE154, if_neg (by decide)]]; exact hl, hFr, hGr, hdis⟩, hK0⟩
   ·
    refine OI_eq [(0, pt v), (1, pt l), (2, nt who), (3, nt t), (4, nt to), (5, nt level), (6, nt n), (37, .bool true)] (by first | simp [hg18] | rfl) ?_
    refine OI_static 36 [(0, pt v), (1, pt l), (2, nt who), (3, nt t), (4, nt to), (5, nt level), (6, nt n), (51, .bool true)] (by kernel_rfl) ?_
    refine OI_end rfl ?_
    refine X_then ?_
    refine V_true rfl ?_
    refine V_seq ?_
    refine V_region ?_
    refine OI_static 1 [(14, nt 1)] (by kernel_rfl) ?_
    refine OI_end rfl ?_
    refine X_then ?_
    refine V_ret ?_
    refine X_ret_then ?_
    have hE155 : delE xs s who t to level n = 1 := by unfold delE; rw [if_pos (.inr (.inr (.inl hg18)))]
    exact X_return (nt 1) rfl ⟨by rw [hE155], ⟨F, G, ⟨_, by rw [show delS xs s who t to level n = s from by unfold delS; rw [hE155, if_neg (by decide)]]; exact h⟩, by rw [show delC2 xs cs s who t to level n = cs from by unfold delC2; rw [hE155, if_neg (by decide)]]; exact hl, hFr, hGr, hdis⟩, hK0⟩
  ·
   refine OI_eq [(0, pt v), (1, pt l), (2, nt who), (3, nt t), (4, nt to), (5, nt level), (6, nt n), (32, .bool true)] (by first | simp [hg12] | rfl) ?_
   refine OI_static 36 [(0, pt v), (1, pt l), (2, nt who), (3, nt t), (4, nt to), (5, nt level), (6, nt n), (51, .bool true)] (by kernel_rfl) ?_
   refine OI_end rfl ?_
   refine X_then ?_
   refine V_true rfl ?_
   refine V_seq ?_
   refine V_region ?_
   refine OI_static 1 [(14, nt 1)] (by kernel_rfl) ?_
   refine OI_end rfl ?_
   refine X_then ?_
   refine V_ret ?_
   refine X_ret_then ?_
   have hE156 : delE xs s who t to level n = 1 := by unfold delE; rw [if_pos (.inr (.inl hg12))]
   exact X_return (nt 1) rfl ⟨by rw [hE156], ⟨F, G, ⟨_, by rw [show delS xs s who t to level n = s from by unfold delS; rw [hE156, if_neg (by decide)]]; exact h⟩, by rw [show delC2 xs cs s who t to level n = cs from by unfold delC2; rw [hE156, if_neg (by decide)]]; exact hl, hFr, hGr, hdis⟩, hK0⟩
 ·
  refine OI_eq [(0, pt v), (1, pt l), (2, nt who), (3, nt t), (4, nt to), (5, nt level), (6, nt n), (27, .bool true)] (by first | simp [hg6] | rfl) ?_
  refine OI_static 36 [(0, pt v), (1, pt l), (2, nt who), (3, nt t), (4, nt to), (5, nt level), (6, nt n), (51, .bool true)] (by kernel_rfl) ?_
  refine OI_end rfl ?_
  refine X_then ?_
  refine V_true rfl ?_
  refine V_seq ?_
  refine V_region ?_
  refine OI_static 1 [(14, nt 1)] (by kernel_rfl) ?_
  refine OI_end rfl ?_
  refine X_then ?_
  refine V_ret ?_
  refine X_ret_then ?_
  have hE157 : delE xs s who t to level n = 1 := by unfold delE; rw [if_pos (.inl hg6)]
  exact X_return (nt 1) rfl ⟨by rw [hE157], ⟨F, G, ⟨_, by rw [show delS xs s who t to level n = s from by unfold delS; rw [hE157, if_neg (by decide)]]; exact h⟩, by rw [show delC2 xs cs s who t to level n = cs from by unfold delC2; rw [hE157, if_neg (by decide)]]; exact hl, hFr, hGr, hdis⟩, hK0⟩
end Go.Al


namespace Go.Al
open Go Go.RowKit Go.Proofs
def VS.zero : VS := ⟨List.replicate 12 none, [], fun _ _ => RecS.zero⟩
theorem Vot.new {F1 F2 : Nat → Prop} {w : World} {v gv gr : Nat} (h1 : GV.Grd F1 w gv []) (h2 : GR.Grd F2 w gr []) (hb : Blk w v ((List.replicate 12 none).map Value.pointer ++ [.pointer (some ⟨gv, 0, none⟩), .pointer (some ⟨gr, 0, none⟩)]) 94) (d12 : ∀ q, F1 q → ¬ F2 q) (n1 : ∀ q, F1 q → q ≠ v) (n2 : ∀ q, F2 q → q ≠ v) :
    Vot (fun q => F1 q ∨ F2 q ∨ q = v) w v ⟨gv, gr, List.replicate 12 none, []⟩ VS.zero := by
  refine ⟨F1, F2, fun q => q = v, ⟨⟨rfl, (fun c hc => by cases hc), (fun a t d hd => by cases hd)⟩, h1, h2, rfl, fun q hq => by rw [hq]; exact hb.lt, d12, n1, n2, rfl, hb, fun i hi => ?_, ?_, fun c hc => (by cases hc), fun a t => .inl ⟨rfl, rfl⟩, ?_⟩, fun _ h => .inl h, fun _ h => .inr (.inl h), fun _ h => .inr (.inr h), ?_⟩
  · left
    show (List.replicate 12 none)[i]? = some none ∧ (List.replicate 12 none)[i]? = some none
    rw [List.getElem?_replicate, List.getElem?_replicate, if_pos hi, if_pos hi]; exact ⟨rfl, rfl⟩
  · intro i j b hi
    have hi' : (List.replicate 12 (none : Option Addr))[i]? = some (some ⟨b, 0, none⟩) := hi
    rw [List.getElem?_replicate] at hi'
    split at hi' <;> cases hi'
  · intro a t a' t' q hq; cases hq
  · rintro q (h | h | rfl)
    · exact h1.lt q h
    · exact h2.lt q h
    · exact hb.lt
theorem TrkOk.zero : TrkOk VS.zero := by
  intro i q h
  have h' : (List.replicate 12 (none : Option PollS))[i]? = some (some q) := h
  rw [List.getElem?_replicate] at h'
  split at h' <;> cases h'
theorem TrkOk.setP {s : VS} (h : TrkOk s) {i : Nat} {q : PollS} (hq : 0 ≤ q.track ∧ q.track < 4) : TrkOk (s.setP i q) := by
  intro j q' e
  have e' : (s.ps.set i (some q))[j]? = some (some q') := e
  rw [List.getElem?_set] at e'
  split at e'
  · split at e'
    · simp only [Option.some.injEq] at e'; rw [← e']; exact hq
    · cases e'
  · exact h j q' e'
theorem TrkOk.poll {s : VS} (h : TrkOk s) {ref : Int} {q : PollS} (e : pollAt s ref = some q) : 0 ≤ q.track ∧ q.track < 4 := by
  unfold pollAt at e
  split at e
  · cases hg : s.ps[ref.toNat]? with
    | none => rw [hg] at e; cases e
    | some x => rw [hg] at e; exact h _ _ (by rw [hg]; exact congrArg some e)
  · cases e
theorem TrkOk.cs {s : VS} (h : TrkOk s) (c : List GV.Ci) : TrkOk { s with cs := c } := h
theorem TrkOk.setR {s : VS} (h : TrkOk s) (a t : Int) (r : RecS) : TrkOk (s.setR a t r) := h
theorem TrkOk.retally {was now : Wgt} : ∀ (l : List (Int × Vt)) {s : VS}, TrkOk s → TrkOk (retally was now s l)
  | [], s, h => h
  | c :: l, s, h => by
    refine TrkOk.retally l (s := retally1 was now s c) ?_
    unfold retally1
    split
    · rename_i q hq
      split
      · exact h.setP (show 0 ≤ q.track ∧ q.track < 4 from h _ _ hq)
      · exact h
    · exact h
theorem TrkOk.gets {s : VS} (h : TrkOk s) (a t : Int) (wt : Wgt) : TrkOk (getsS s a t wt) := TrkOk.retally _ (h.setR a t _)
theorem TrkOk.openS {s : VS} (h : TrkOk s) (ref t : Int) : TrkOk (openS s ref t) := by
  unfold Al.openS
  split
  · rename_i he
    refine h.setP ?_
    show 0 ≤ t ∧ t < 4
    unfold openE at he
    split at he
    · cases he
    · omega
  · exact h
theorem TrkOk.voteS {s : VS} (h : TrkOk s) (xs : List Acc) (who ref : Int) (x : Vt) : TrkOk (voteS xs s who ref x) := by
  unfold Al.voteS
  split
  · split
    · exact h
    · rename_i q hq; exact h.setP (show 0 ≤ q.track ∧ q.track < 4 from h.poll hq)
  · exact h
theorem TrkOk.delS {s : VS} (h : TrkOk s) (xs : List Acc) (who t to level n : Int) : TrkOk (delS xs s who t to level n) := by
  unfold Al.delS
  split
  · exact (h.setR _ _ _).gets _ _ _
  · exact h
/-- The voting at v. -/
def VotT (F : Nat → Prop) (w : World) (v : Nat) (s : VS) : Prop := VotE F w v s ∧ TrkOk s
section
variable {F S : Nat → Prop} {w w' : World} {v N : Nat} {s : VS}
theorem VotT.lt (h : VotT F w v s) : ∀ q, F q → q < w.heap.size := h.1.lt
theorem VotT.at_ (h : VotT F w v s) : F v := h.1.at_
theorem VotT.keep (h : VotT F w v s) (k : Keep S w w') (hS : ∀ q, F q → ¬ S q) : VotT F w' v s := ⟨h.1.keep k hS, h.2⟩
theorem VotT.quiet (h : VotT F w v s) (k : Keep (lb N w) w w') : VotT F w' v s := ⟨h.1.quiet k, h.2⟩
theorem VotT.inv (h : VotT F w v s) : s.Inv := h.1.inv
end

set_option maxRecDepth 10000 in
theorem new_votT (w : World) : Calls Tryz.prog 42 #[] w fun e w' => ∃ v F, e = .returned (.pointer (some ⟨v, 0, none⟩)) ∧ VotT F w' v VS.zero ∧ Keep none_ w w' ∧ (∀ q, F q → w.heap.size ≤ q) := by
 have hK0 : Keep none_ w w := Keep.refl _ _
 have hzhK0 := Keep.size hK0
 refine enterV Tryz.func42 rfl [] 5 rfl rfl rfl ?_
 refine V_pick [] rfl ?_
 refine V_seq ?_
 refine V_region ?_
 refine OI_static 1 [] (by kernel_rfl) ?_
 refine OI_end rfl ?_
 refine X_then ?_
 refine V_seq ?_
 refine V_region ?_
 refine OI_call { callee := (Callee.value (Operand.func 85)), args := #[], argTypes := #[] } 85 #[] (some 1) (by kernel_rfl) (by kernel_rfl) (by kernel_rfl) (GV.new_grd _) ?_
 rintro _ w1 ⟨g3, F4, rfl, ho5, hk2, hge6⟩
 refine ⟨_, rfl, ?_⟩
 have hsz7 := Keep.size hk2
 replace hK0 := Keep.tr hK0 (Keep.ofNone hk2)
 have own8 : ∀ q, F4 q → w.heap.size ≤ q := fun q hq => by have h1 := hge6 q hq; omega
 have lt9 := GV.Grd.lt ho5
 have hg3lt : g3 < w1.heap.size := GV.Grd.lt ho5 _ (GV.Grd.at_ ho5)
 have hg3ge := hge6 _ (GV.Grd.at_ ho5)
 refine OI_call { callee := (Callee.value (Operand.func 86)), args := #[], argTypes := #[] } 86 #[] (some 2) (by kernel_rfl) (by kernel_rfl) (by kernel_rfl) (GR.new_grd _) ?_
 rintro _ w10 ⟨g12, F13, rfl, ho14, hk11, hge15⟩
 refine ⟨_, rfl, ?_⟩
 have hsz16 := Keep.size hk11
 replace hK0 := Keep.tr hK0 (Keep.ofNone hk11)
 replace ho5 := GV.Grd.keep ho5 hk11 (fun _ _ f => f)
 have own17 : ∀ q, F13 q → w1.heap.size ≤ q := fun q hq => by have h1 := hge15 q hq; omega
 have lt18 := GR.Grd.lt ho14
 have dis19 : ∀ q, F13 q → ¬ F4 q := fun q h1 h2 => by have h3 := hge15 q h1; have h4 := lt9 q h2; omega
 have hg12lt : g12 < w10.heap.size := GR.Grd.lt ho14 _ (GR.Grd.at_ ho14)
 have hg12ge := hge15 _ (GR.Grd.at_ ho14)
 refine OI_static 3 [(3, .agg #[.pointer none, .pointer none, .pointer none, .pointer none, .pointer none, .pointer none, .pointer none, .pointer none, .pointer none, .pointer none, .pointer none, .pointer none, pt g3, pt g12])] (by kernel_rfl) ?_
 refine OI_box 94 (.tmp 3) (.agg #[.pointer none, .pointer none, .pointer none, .pointer none, .pointer none, .pointer none, .pointer none, .pointer none, .pointer none, .pointer none, .pointer none, .pointer none, pt g3, pt g12]) [.pointer none, .pointer none, .pointer none, .pointer none, .pointer none, .pointer none, .pointer none, .pointer none, .pointer none, .pointer none, .pointer none, .pointer none, pt g3, pt g12] (some 4) (by kernel_rfl) (by kernel_rfl) (by kernel_rfl) ?_
 intro b20 w20 e20 hb20 k20 z20
 have hsz21 := Keep.size k20
 replace hK0 := Keep.tr hK0 (Keep.ofNone k20)
 replace ho5 := GV.Grd.keep ho5 k20 (fun _ _ f => f)
 replace ho14 := GR.Grd.keep ho14 k20 (fun _ _ f => f)
 have hb20lt := hb20.lt
 refine OI_static 5 [(0, pt b20)] (by kernel_rfl) ?_
 refine OI_end rfl ?_
 refine X_then ?_
 refine V_ret ?_
 exact X_return _ rfl ⟨b20, _, rfl, ⟨⟨_, Vot.new (gv := g3) (gr := g12) ho5 ho14 hb20 (fun q h1 h2 => dis19 q h2 h1) (fun q hq => by have h1 := lt9 q hq; omega) (fun q hq => by have h1 := lt18 q hq; omega)⟩, TrkOk.zero⟩, hK0, fun q hq => by rcases hq with h | h | h; (have h1 := own8 q h; omega); (have h1 := own17 q h; omega); omega⟩

theorem vote_spec (F G : Nat → Prop) (v l : Nat) (s : VS) (xs : List Acc) (cs : List Ci) (who ref : Int) (x : Vt) (w : World) (h : VotT F w v s) (hl : Led G w l xs cs) (hdis : ∀ q, F q → ¬ G q) (hmax : cs.length < 100000) : Calls Tryz.prog 18 #[.pointer (some ⟨v, 0, none⟩), .pointer (some ⟨l, 0, none⟩), .int .i64 who, .int .i64 ref, .agg x.cells.toArray] w fun e w' => e = .returned (.int .i64 (voteE xs s who ref x)) ∧ (∃ F' G', VotT F' w' v (voteS xs s who ref x) ∧ Led G' w' l xs (voteC xs cs s who ref x) ∧ (∀ q, F' q → F q ∨ w.heap.size ≤ q) ∧ (∀ q, G' q → G q ∨ w.heap.size ≤ q) ∧ (∀ q, F' q → ¬ G' q)) ∧ Keep (fun q => F q ∨ G q) w w' := by
  obtain ⟨⟨P, h⟩, ht⟩ := h
  refine (vote_at F G v l P s xs cs who ref x w h hl hdis ht hmax).mono ?_
  rintro e w' ⟨rfl, ⟨F', G', h1, h2, h3⟩, hk⟩
  exact ⟨rfl, ⟨F', G', ⟨h1, ht.voteS _ _ _ _⟩, h2, h3⟩, hk⟩

theorem delegate_spec (F G : Nat → Prop) (v l : Nat) (s : VS) (xs : List Acc) (cs : List Ci) (who t to level n : Int) (w : World) (h : VotT F w v s) (hl : Led G w l xs cs) (hdis : ∀ q, F q → ¬ G q) (hmax : cs.length < 100000) : Calls Tryz.prog 17 #[.pointer (some ⟨v, 0, none⟩), .pointer (some ⟨l, 0, none⟩), .int .i64 who, .int .i64 t, .int .i64 to, .int .i64 level, .int .i64 n] w fun e w' => e = .returned (.int .i64 (delE xs s who t to level n)) ∧ (∃ F' G', VotT F' w' v (delS xs s who t to level n) ∧ Led G' w' l xs (delC2 xs cs s who t to level n) ∧ (∀ q, F' q → F q ∨ w.heap.size ≤ q) ∧ (∀ q, G' q → G q ∨ w.heap.size ≤ q) ∧ (∀ q, F' q → ¬ G' q)) ∧ Keep (fun q => F q ∨ G q) w w' := by
  obtain ⟨⟨P, h⟩, ht⟩ := h
  refine (delegate_at F G v l P s xs cs who t to level n w h hl hdis hmax).mono ?_
  rintro e w' ⟨rfl, ⟨F', G', h1, h2, h3⟩, hk⟩
  exact ⟨rfl, ⟨F', G', ⟨h1, ht.delS _ _ _ _ _ _⟩, h2, h3⟩, hk⟩

theorem open_specT (F : Nat → Prop) (v : Nat) (s : VS) (ref t : Int) (w : World) (h : VotT F w v s) : Calls Tryz.prog 16 #[.pointer (some ⟨v, 0, none⟩), .int .i64 ref, .int .i64 t] w fun e w' => e = .returned (.int .i64 (openE s ref t)) ∧ (∃ F', VotT F' w' v (openS s ref t) ∧ (∀ q, F' q → F q ∨ w.heap.size ≤ q)) ∧ Keep F w w' := by
  obtain ⟨h, ht⟩ := h
  refine (open_spec F v s ref t w h).mono ?_
  rintro e w' ⟨rfl, ⟨F', h1, h3⟩, hk⟩
  exact ⟨rfl, ⟨F', ⟨h1, ht.openS _ _⟩, h3⟩, hk⟩

end Go.Al


namespace Go.Al
open Go Go.RowKit Go.Proofs
theorem new_ok (A : Option Addr) (cap : Nat) (fs : List Int) (w : World) (hA : ArgT w 1 intc A cap fs) (hn : fs.length ≤ 100000) (hok : okP fs) : Calls Tryz.prog 29 #[.slice A fs.length cap] w fun e w' => ∃ l F, e = .returned (.tuple #[.pointer (some ⟨l, 0, none⟩), .int .i64 0]) ∧ Led F w' l (newX fs 10) [] ∧ Keep none_ w w' ∧ (∀ q, F q → w.heap.size ≤ q) :=
  (new_spec6 A cap fs w hA hn).mono (by
    rintro e w' (⟨_, h⟩ | ⟨h, _⟩)
    · exact h
    · exact absurd hok h)

set_option maxRecDepth 10000 in
theorem rIn_spec (n lo hi : Int) (w : World) : Calls Tryz.prog 40 #[.int .i64 n, .int .i64 lo, .int .i64 hi] w fun e w' => e = .returned (.bool (decide (lo ≤ n ∧ n ≤ hi))) ∧ w' = w := by
 refine enterV Tryz.func40 rfl [nt n, nt lo, nt hi] 15 rfl rfl rfl ?_
 refine V_pick [(0, nt n), (1, nt lo), (2, nt hi)] rfl ?_
 refine V_seq ?_
 refine V_region ?_
 refine OI_static 1 [(0, nt n), (1, nt lo), (2, nt hi)] (by kernel_rfl) ?_
 refine OI_end rfl ?_
 refine X_then ?_
 refine V_seq ?_
 refine V_region ?_
 refine OI_static 4 [(0, nt n), (2, nt hi), (10, .bool (decide (n ≥ lo)))] (by kernel_rfl) ?_
 by_cases hg1 : n ≥ lo
 ·
  refine OI_eq [(0, nt n), (2, nt hi), (10, .bool true)] (by first | simp [hg1] | rfl) ?_
  refine OI_static 9 [(6, .bool (decide (n ≤ hi)))] (by kernel_rfl) ?_
  refine OI_end rfl ?_
  refine X_then ?_
  refine V_ret ?_
  exact X_return (.bool (decide (n ≤ hi))) rfl ⟨by congr 2; simp only [Bool.decide_and]; by_cases h1 : lo ≤ n <;> simp [h1] <;> omega, rfl⟩
 ·
  refine OI_eq [(0, nt n), (2, nt hi), (10, .bool false)] (by first | simp [hg1] | rfl) ?_
  refine OI_static 9 [(6, .bool false)] (by kernel_rfl) ?_
  refine OI_end rfl ?_
  refine X_then ?_
  refine V_ret ?_
  exact X_return (.bool false) rfl ⟨by congr 2; simp only [Bool.decide_and]; by_cases h1 : lo ≤ n <;> simp [h1] <;> omega, rfl⟩

set_option maxRecDepth 10000 in
theorem rIs_spec (x : Vt) (w : World) : Calls Tryz.prog 13 #[.agg x.cells.toArray] w fun e w' => e = .returned (.bool (decide (okV x))) ∧ Keep none_ w w' := by
 have hK0 : Keep none_ w w := Keep.refl _ _
 have hzhK0 := Keep.size hK0
 refine enterV Tryz.func13 rfl [.agg (Vt.cells x).toArray] 72 rfl rfl rfl ?_
 refine V_pick [(0, .agg (Vt.cells x).toArray)] rfl ?_
 refine V_seq ?_
 refine V_region ?_
 refine OI_box 23 (.tmp 0) (.agg (Vt.cells x).toArray) (Vt.cells x) (some 1) (by kernel_rfl) (by kernel_rfl) rfl ?_
 intro b1 w1 e1 hb1 k1 z1
 have hsz2 := Keep.size k1
 replace hK0 := Keep.tr hK0 (Keep.ofNone k1)
 have hb1lt := hb1.lt
 refine OI_static 2 [(1, pt b1)] (by kernel_rfl) ?_
 refine OI_end rfl ?_
 refine X_then ?_
 refine V_seq ?_
 refine V_seq ?_
 refine V_region ?_
 refine OI_static 1 [(1, pt b1), (3, .pointer (some ⟨b1, 3, none⟩))] (by kernel_rfl) ?_
 refine OI_cell 3 (.tmp 3) 3 (nt x.a) (some 4) (by kernel_rfl) (by kernel_rfl) hb1 (m := 1) (by kernel_rfl) rfl ?_
 refine OI_call { callee := (Callee.value (Operand.func 40)), args := #[(Operand.tmp 4), (Operand.const (Value.int IntKind.i64 0)), (Operand.const (Value.int IntKind.i64 1073741824))], argTypes := #[3, 3, 3] } 40 #[nt x.a, nt 0, nt 1073741824] (some 5) (by kernel_rfl) (by kernel_rfl) (by kernel_rfl) (rIn_spec x.a 0 1073741824 _) ?_
 rintro _ w1 ⟨rfl, rfl⟩
 refine ⟨_, rfl, ?_⟩
 refine OI_static 5 [(1, pt b1), (7, .bool (!(decide ((0 : Int) ≤ x.a ∧ x.a ≤ 1073741824))))] (by kernel_rfl) ?_
 by_cases hg4 : (0 : Int) ≤ x.a ∧ x.a ≤ 1073741824
 ·
  refine OI_eq [(1, pt b1), (7, .bool false)] (by first | simp [hg4] | rfl) ?_
  refine OI_static 6 [(1, pt b1), (7, .bool false), (8, .pointer (some ⟨b1, 4, none⟩))] (by kernel_rfl) ?_
  refine OI_cell 3 (.tmp 8) 4 (nt x.n) (some 9) (by kernel_rfl) (by kernel_rfl) hb1 (m := 1) (by kernel_rfl) rfl ?_
  refine OI_call { callee := (Callee.value (Operand.func 40)), args := #[(Operand.tmp 9), (Operand.const (Value.int IntKind.i64 0)), (Operand.const (Value.int IntKind.i64 1073741824))], argTypes := #[3, 3, 3] } 40 #[nt x.n, nt 0, nt 1073741824] (some 10) (by kernel_rfl) (by kernel_rfl) (by kernel_rfl) (rIn_spec x.n 0 1073741824 _) ?_
  rintro _ w1 ⟨rfl, rfl⟩
  refine ⟨_, rfl, ?_⟩
  refine OI_static 11 [(1, pt b1), (13, .bool (!(decide ((0 : Int) ≤ x.n ∧ x.n ≤ 1073741824))))] (by kernel_rfl) ?_
  by_cases hg6 : (0 : Int) ≤ x.n ∧ x.n ≤ 1073741824
  ·
   refine OI_eq [(1, pt b1), (13, .bool false)] (by first | simp [hg6] | rfl) ?_
   refine OI_static 12 [(1, pt b1), (13, .bool false), (14, .pointer (some ⟨b1, 5, none⟩))] (by kernel_rfl) ?_
   refine OI_cell 3 (.tmp 14) 5 (nt x.s) (some 15) (by kernel_rfl) (by kernel_rfl) hb1 (m := 1) (by kernel_rfl) rfl ?_
   refine OI_call { callee := (Callee.value (Operand.func 40)), args := #[(Operand.tmp 15), (Operand.const (Value.int IntKind.i64 0)), (Operand.const (Value.int IntKind.i64 1073741824))], argTypes := #[3, 3, 3] } 40 #[nt x.s, nt 0, nt 1073741824] (some 16) (by kernel_rfl) (by kernel_rfl) (by kernel_rfl) (rIn_spec x.s 0 1073741824 _) ?_
   rintro _ w1 ⟨rfl, rfl⟩
   refine ⟨_, rfl, ?_⟩
   refine OI_static 17 [(1, pt b1), (19, .bool (!(decide ((0 : Int) ≤ x.s ∧ x.s ≤ 1073741824))))] (by kernel_rfl) ?_
   by_cases hg8 : (0 : Int) ≤ x.s ∧ x.s ≤ 1073741824
   ·
    refine OI_eq [(1, pt b1), (19, .bool false)] (by first | simp [hg8] | rfl) ?_
    refine OI_static 18 [(1, pt b1), (19, .bool false), (20, .pointer (some ⟨b1, 3, none⟩))] (by kernel_rfl) ?_
    refine OI_cell 3 (.tmp 20) 3 (nt x.a) (some 21) (by kernel_rfl) (by kernel_rfl) hb1 (m := 1) (by kernel_rfl) rfl ?_
    refine OI_static 20 [(1, pt b1), (19, .bool false), (21, nt x.a), (22, .pointer (some ⟨b1, 4, none⟩))] (by kernel_rfl) ?_
    refine OI_cell 3 (.tmp 22) 4 (nt x.n) (some 23) (by kernel_rfl) (by kernel_rfl) hb1 (m := 1) (by kernel_rfl) rfl ?_
    have hw9 : IntKind.i64.wrap (x.a + x.n) = x.a + x.n := (wrap64_id (by omega) (by omega)).trans (by omega)
    refine OI_static 22 [(1, pt b1), (19, .bool false), (24, nt (IntKind.i64.wrap (x.a + x.n)))] (by kernel_rfl) ?_
    refine OI_eq [(1, pt b1), (19, .bool false), (24, nt (x.a + x.n))] (by rw [hw9]) ?_
    refine OI_static 23 [(1, pt b1), (19, .bool false), (24, nt (x.a + x.n)), (25, .pointer (some ⟨b1, 5, none⟩))] (by kernel_rfl) ?_
    refine OI_cell 3 (.tmp 25) 5 (nt x.s) (some 26) (by kernel_rfl) (by kernel_rfl) hb1 (m := 1) (by kernel_rfl) rfl ?_
    have hw10 : IntKind.i64.wrap ((x.a + x.n) + x.s) = (x.a + x.n) + x.s := (wrap64_id (by omega) (by omega)).trans (by omega)
    refine OI_static 25 [(1, pt b1), (19, .bool false), (27, nt (IntKind.i64.wrap ((x.a + x.n) + x.s)))] (by kernel_rfl) ?_
    refine OI_eq [(1, pt b1), (19, .bool false), (27, nt ((x.a + x.n) + x.s))] (by rw [hw10]) ?_
    refine OI_static 27 [(1, pt b1), (29, .bool (decide ((x.a + x.n) + x.s > 1073741824)))] (by kernel_rfl) ?_
    refine OI_end rfl ?_
    refine X_then ?_
    refine V_if ((x.a + x.n) + x.s > 1073741824) (by kernel_rfl) (fun hc11 => ?_) (fun hc11 => ?_)
    ·
     refine V_seq ?_
     refine V_region ?_
     refine OI_static 1 [(2, .bool false)] (by kernel_rfl) ?_
     refine OI_end rfl ?_
     refine X_then ?_
     refine V_ret ?_
     refine X_ret_then ?_
     exact X_return (.bool false) rfl ⟨by congr 2; first | (apply Eq.symm; simp only [decide_eq_true_eq, decide_eq_false_iff_not]; unfold okV; simp_all <;> omega) | (rw [decide_eq_decide]; unfold okV; simp_all <;> omega), hK0⟩
    ·
     refine V_skip ?_
     refine X_then ?_
     refine V_seq ?_
     refine V_seq ?_
     refine V_region ?_
     refine OI_static 1 [(1, pt b1), (30, pt b1)] (by kernel_rfl) ?_
     refine OI_cell 3 (.tmp 30) 0 (nt x.kind) (some 31) (by kernel_rfl) (by kernel_rfl) hb1 (m := 1) (by kernel_rfl) rfl ?_
     refine OI_end rfl ?_
     refine X_then ?_
     refine V_block ?_
     refine V_seq ?_
     refine V_region ?_
     refine OI_static 2 [(1, pt b1), (31, nt x.kind), (32, .bool (decide (x.kind = 1)))] (by kernel_rfl) ?_
     refine OI_end rfl ?_
     refine X_then ?_
     refine V_if (x.kind = 1) (by kernel_rfl) (fun hc12 => ?_) (fun hc12 => ?_)
     ·
      refine V_seq ?_
      refine V_region ?_
      refine OI_static 1 [(1, pt b1), (34, .pointer (some ⟨b1, 2, none⟩))] (by kernel_rfl) ?_
      refine OI_cell 3 (.tmp 34) 2 (nt x.level) (some 35) (by kernel_rfl) (by kernel_rfl) hb1 (m := 1) (by kernel_rfl) rfl ?_
      refine OI_call { callee := (Callee.value (Operand.func 40)), args := #[(Operand.tmp 35), (Operand.const (Value.int IntKind.i64 0)), (Operand.const (Value.int IntKind.i64 6))], argTypes := #[3, 3, 3] } 40 #[nt x.level, nt 0, nt 6] (some 36) (by kernel_rfl) (by kernel_rfl) (by kernel_rfl) (rIn_spec x.level 0 6 _) ?_
      rintro _ w1 ⟨rfl, rfl⟩
      refine ⟨_, rfl, ?_⟩
      refine OI_static 4 [(1, pt b1), (37, .bool (decide ((0 : Int) ≤ x.level ∧ x.level ≤ 6)))] (by kernel_rfl) ?_
      by_cases hg14 : (0 : Int) ≤ x.level ∧ x.level ≤ 6
      ·
       refine OI_eq [(1, pt b1), (37, .bool true)] (by first | simp [hg14] | rfl) ?_
       refine OI_static 5 [(1, pt b1), (37, .bool true), (38, .pointer (some ⟨b1, 4, none⟩))] (by kernel_rfl) ?_
       refine OI_cell 3 (.tmp 38) 4 (nt x.n) (some 39) (by kernel_rfl) (by kernel_rfl) hb1 (m := 1) (by kernel_rfl) rfl ?_
       refine OI_static 9 [(1, pt b1), (42, .bool (decide (x.n = 0)))] (by kernel_rfl) ?_
       by_cases hg15 : x.n = 0
       ·
        refine OI_eq [(1, pt b1), (42, .bool true)] (by first | simp [hg15] | rfl) ?_
        refine OI_static 10 [(42, .bool true), (43, .pointer (some ⟨b1, 5, none⟩))] (by kernel_rfl) ?_
        refine OI_cell 3 (.tmp 43) 5 (nt x.s) (some 44) (by kernel_rfl) (by kernel_rfl) hb1 (m := 1) (by kernel_rfl) rfl ?_
        refine OI_static 14 [(2, .bool (decide (x.s = 0)))] (by kernel_rfl) ?_
        refine OI_end rfl ?_
        refine X_then ?_
        refine V_ret ?_
        refine X_ret_block ?_
        refine X_ret_then ?_
        exact X_return (.bool (decide (x.s = 0))) rfl ⟨by congr 2; first | (apply Eq.symm; simp only [decide_eq_true_eq, decide_eq_false_iff_not]; unfold okV; simp_all <;> omega) | (rw [decide_eq_decide]; unfold okV; simp_all <;> omega), hK0⟩
       ·
        refine OI_eq [(1, pt b1), (42, .bool false)] (by first | simp [hg15] | rfl) ?_
        refine OI_static 14 [(2, .bool false)] (by kernel_rfl) ?_
        refine OI_end rfl ?_
        refine X_then ?_
        refine V_ret ?_
        refine X_ret_block ?_
        refine X_ret_then ?_
        exact X_return (.bool false) rfl ⟨by congr 2; first | (apply Eq.symm; simp only [decide_eq_true_eq, decide_eq_false_iff_not]; unfold okV; simp_all <;> omega) | (rw [decide_eq_decide]; unfold okV; simp_all <;> omega), hK0⟩
      ·
       refine OI_eq [(1, pt b1), (37, .bool false)] (by first | simp [hg14] | rfl) ?_
       refine OI_static 14 [(2, .bool false)] (by kernel_rfl) ?_
       refine OI_end rfl ?_
       refine X_then ?_
       refine V_ret ?_
       refine X_ret_block ?_
       refine X_ret_then ?_
       exact X_return (.bool false) rfl ⟨by congr 2; first | (apply Eq.symm; simp only [decide_eq_true_eq, decide_eq_false_iff_not]; unfold okV; simp_all <;> omega) | (rw [decide_eq_decide]; unfold okV; simp_all <;> omega), hK0⟩
     ·
      refine V_seq ?_
      refine V_region ?_
      refine OI_static 2 [(1, pt b1), (31, nt x.kind), (47, .bool (decide (x.kind = 2)))] (by kernel_rfl) ?_
      refine OI_end rfl ?_
      refine X_then ?_
      refine V_if (x.kind = 2) (by kernel_rfl) (fun hc16 => ?_) (fun hc16 => ?_)
      ·
       refine V_seq ?_
       refine V_region ?_
       refine OI_static 1 [(1, pt b1), (49, .pointer (some ⟨b1, 1, none⟩))] (by kernel_rfl) ?_
       refine OI_cell 4 (.tmp 49) 1 (.bool x.aye) (some 50) (by kernel_rfl) (by kernel_rfl) hb1 (m := 1) (by kernel_rfl) rfl ?_
       refine OI_static 4 [(1, pt b1), (52, .bool (!x.aye))] (by kernel_rfl) ?_
       cases hg17 : (!x.aye)
       ·
        refine OI_eq [(1, pt b1), (52, .bool false)] (by first | rfl | rw [hg17]) ?_
        refine OI_static 14 [(2, .bool false)] (by kernel_rfl) ?_
        refine OI_end rfl ?_
        refine X_then ?_
        refine V_ret ?_
        refine X_ret_block ?_
        refine X_ret_then ?_
        exact X_return (.bool false) rfl ⟨by congr 2; first | (apply Eq.symm; simp only [decide_eq_true_eq, decide_eq_false_iff_not]; unfold okV; simp_all <;> omega) | (rw [decide_eq_decide]; unfold okV; simp_all <;> omega), hK0⟩
       ·
        refine OI_eq [(1, pt b1), (52, .bool true)] (by first | rfl | rw [hg17]) ?_
        refine OI_static 5 [(1, pt b1), (52, .bool true), (53, .pointer (some ⟨b1, 2, none⟩))] (by kernel_rfl) ?_
        refine OI_cell 3 (.tmp 53) 2 (nt x.level) (some 54) (by kernel_rfl) (by kernel_rfl) hb1 (m := 1) (by kernel_rfl) rfl ?_
        refine OI_static 9 [(1, pt b1), (57, .bool (decide (x.level = 0)))] (by kernel_rfl) ?_
        by_cases hg18 : x.level = 0
        ·
         refine OI_eq [(1, pt b1), (57, .bool true)] (by first | simp [hg18] | rfl) ?_
         refine OI_static 10 [(57, .bool true), (58, .pointer (some ⟨b1, 5, none⟩))] (by kernel_rfl) ?_
         refine OI_cell 3 (.tmp 58) 5 (nt x.s) (some 59) (by kernel_rfl) (by kernel_rfl) hb1 (m := 1) (by kernel_rfl) rfl ?_
         refine OI_static 14 [(2, .bool (decide (x.s = 0)))] (by kernel_rfl) ?_
         refine OI_end rfl ?_
         refine X_then ?_
         refine V_ret ?_
         refine X_ret_block ?_
         refine X_ret_then ?_
         exact X_return (.bool (decide (x.s = 0))) rfl ⟨by congr 2; first | (apply Eq.symm; simp only [decide_eq_true_eq, decide_eq_false_iff_not]; unfold okV; simp_all <;> omega) | (rw [decide_eq_decide]; unfold okV; simp_all <;> omega), hK0⟩
        ·
         refine OI_eq [(1, pt b1), (57, .bool false)] (by first | simp [hg18] | rfl) ?_
         refine OI_static 14 [(2, .bool false)] (by kernel_rfl) ?_
         refine OI_end rfl ?_
         refine X_then ?_
         refine V_ret ?_
         refine X_ret_block ?_
         refine X_ret_then ?_
         exact X_return (.bool false) rfl ⟨by congr 2; first | (apply Eq.symm; simp only [decide_eq_true_eq, decide_eq_false_iff_not]; unfold okV; simp_all <;> omega) | (rw [decide_eq_decide]; unfold okV; simp_all <;> omega), hK0⟩
      ·
       refine V_seq ?_
       refine V_region ?_
       refine OI_static 2 [(1, pt b1), (62, .bool (decide (x.kind = 3)))] (by kernel_rfl) ?_
       refine OI_end rfl ?_
       refine X_then ?_
       refine V_if (x.kind = 3) (by kernel_rfl) (fun hc19 => ?_) (fun hc19 => ?_)
       ·
        refine V_seq ?_
        refine V_region ?_
        refine OI_static 1 [(1, pt b1), (64, .pointer (some ⟨b1, 1, none⟩))] (by kernel_rfl) ?_
        refine OI_cell 4 (.tmp 64) 1 (.bool x.aye) (some 65) (by kernel_rfl) (by kernel_rfl) hb1 (m := 1) (by kernel_rfl) rfl ?_
        refine OI_static 4 [(1, pt b1), (67, .bool (!x.aye))] (by kernel_rfl) ?_
        cases hg20 : (!x.aye)
        ·
         refine OI_eq [(1, pt b1), (67, .bool false)] (by first | rfl | rw [hg20]) ?_
         refine OI_static 9 [(2, .bool false)] (by kernel_rfl) ?_
         refine OI_end rfl ?_
         refine X_then ?_
         refine V_ret ?_
         refine X_ret_block ?_
         refine X_ret_then ?_
         exact X_return (.bool false) rfl ⟨by congr 2; first | (apply Eq.symm; simp only [decide_eq_true_eq, decide_eq_false_iff_not]; unfold okV; simp_all <;> omega) | (rw [decide_eq_decide]; unfold okV; simp_all <;> omega), hK0⟩
        ·
         refine OI_eq [(1, pt b1), (67, .bool true)] (by first | rfl | rw [hg20]) ?_
         refine OI_static 5 [(67, .bool true), (68, .pointer (some ⟨b1, 2, none⟩))] (by kernel_rfl) ?_
         refine OI_cell 3 (.tmp 68) 2 (nt x.level) (some 69) (by kernel_rfl) (by kernel_rfl) hb1 (m := 1) (by kernel_rfl) rfl ?_
         refine OI_static 9 [(2, .bool (decide (x.level = 0)))] (by kernel_rfl) ?_
         refine OI_end rfl ?_
         refine X_then ?_
         refine V_ret ?_
         refine X_ret_block ?_
         refine X_ret_then ?_
         exact X_return (.bool (decide (x.level = 0))) rfl ⟨by congr 2; first | (apply Eq.symm; simp only [decide_eq_true_eq, decide_eq_false_iff_not]; unfold okV; simp_all <;> omega) | (rw [decide_eq_decide]; unfold okV; simp_all <;> omega), hK0⟩
       ·
        refine V_skip ?_
        refine X_block ?_
        refine X_then ?_
        refine V_seq ?_
        refine V_region ?_
        refine OI_static 1 [(2, .bool false)] (by kernel_rfl) ?_
        refine OI_end rfl ?_
        refine X_then ?_
        refine V_ret ?_
        exact X_return (.bool false) rfl ⟨by congr 2; first | (apply Eq.symm; simp only [decide_eq_true_eq, decide_eq_false_iff_not]; unfold okV; simp_all <;> omega) | (rw [decide_eq_decide]; unfold okV; simp_all <;> omega), hK0⟩
   ·
    refine OI_eq [(1, pt b1), (19, .bool true)] (by first | simp [hg8] | rfl) ?_
    refine OI_static 27 [(1, pt b1), (29, .bool true)] (by kernel_rfl) ?_
    refine OI_end rfl ?_
    refine X_then ?_
    refine V_true rfl ?_
    refine V_seq ?_
    refine V_region ?_
    refine OI_static 1 [(2, .bool false)] (by kernel_rfl) ?_
    refine OI_end rfl ?_
    refine X_then ?_
    refine V_ret ?_
    refine X_ret_then ?_
    exact X_return (.bool false) rfl ⟨by congr 2; first | (apply Eq.symm; simp only [decide_eq_true_eq, decide_eq_false_iff_not]; unfold okV; simp_all <;> omega) | (rw [decide_eq_decide]; unfold okV; simp_all <;> omega), hK0⟩
  ·
   refine OI_eq [(1, pt b1), (13, .bool true)] (by first | simp [hg6] | rfl) ?_
   refine OI_static 27 [(1, pt b1), (29, .bool true)] (by kernel_rfl) ?_
   refine OI_end rfl ?_
   refine X_then ?_
   refine V_true rfl ?_
   refine V_seq ?_
   refine V_region ?_
   refine OI_static 1 [(2, .bool false)] (by kernel_rfl) ?_
   refine OI_end rfl ?_
   refine X_then ?_
   refine V_ret ?_
   refine X_ret_then ?_
   exact X_return (.bool false) rfl ⟨by congr 2; first | (apply Eq.symm; simp only [decide_eq_true_eq, decide_eq_false_iff_not]; unfold okV; simp_all <;> omega) | (rw [decide_eq_decide]; unfold okV; simp_all <;> omega), hK0⟩
 ·
  refine OI_eq [(1, pt b1), (7, .bool true)] (by first | simp [hg4] | rfl) ?_
  refine OI_static 27 [(1, pt b1), (29, .bool true)] (by kernel_rfl) ?_
  refine OI_end rfl ?_
  refine X_then ?_
  refine V_true rfl ?_
  refine V_seq ?_
  refine V_region ?_
  refine OI_static 1 [(2, .bool false)] (by kernel_rfl) ?_
  refine OI_end rfl ?_
  refine X_then ?_
  refine V_ret ?_
  refine X_ret_then ?_
  exact X_return (.bool false) rfl ⟨by congr 2; first | (apply Eq.symm; simp only [decide_eq_true_eq, decide_eq_false_iff_not]; unfold okV; simp_all <;> omega) | (rw [decide_eq_decide]; unfold okV; simp_all <;> omega), hK0⟩

set_option maxRecDepth 10000 in
theorem rCapital_spec (x : Vt) (w : World) : Calls Tryz.prog 14 #[.agg x.cells.toArray] w fun e w' => e = .returned (.int .i64 (capI x)) ∧ Keep none_ w w' := by
 have hK0 : Keep none_ w w := Keep.refl _ _
 have hzhK0 := Keep.size hK0
 refine enterV Tryz.func14 rfl [.agg (Vt.cells x).toArray] 11 rfl rfl rfl ?_
 refine V_pick [(0, .agg (Vt.cells x).toArray)] rfl ?_
 refine V_seq ?_
 refine V_region ?_
 refine OI_box 23 (.tmp 0) (.agg (Vt.cells x).toArray) (Vt.cells x) (some 1) (by kernel_rfl) (by kernel_rfl) rfl ?_
 intro b1 w1 e1 hb1 k1 z1
 have hsz2 := Keep.size k1
 replace hK0 := Keep.tr hK0 (Keep.ofNone k1)
 have hb1lt := hb1.lt
 refine OI_static 2 [(1, pt b1)] (by kernel_rfl) ?_
 refine OI_end rfl ?_
 refine X_then ?_
 refine V_seq ?_
 refine V_region ?_
 refine OI_static 1 [(1, pt b1), (3, .pointer (some ⟨b1, 3, none⟩))] (by kernel_rfl) ?_
 refine OI_cell 3 (.tmp 3) 3 (nt x.a) (some 4) (by kernel_rfl) (by kernel_rfl) hb1 (m := 1) (by kernel_rfl) rfl ?_
 refine OI_static 3 [(1, pt b1), (4, nt x.a), (5, .pointer (some ⟨b1, 4, none⟩))] (by kernel_rfl) ?_
 refine OI_cell 3 (.tmp 5) 4 (nt x.n) (some 6) (by kernel_rfl) (by kernel_rfl) hb1 (m := 1) (by kernel_rfl) rfl ?_
 refine OI_static 6 [(7, nt (IntKind.i64.wrap (x.a + x.n))), (8, .pointer (some ⟨b1, 5, none⟩))] (by kernel_rfl) ?_
 refine OI_cell 3 (.tmp 8) 5 (nt x.s) (some 9) (by kernel_rfl) (by kernel_rfl) hb1 (m := 1) (by kernel_rfl) rfl ?_
 refine OI_static 9 [(2, nt (IntKind.i64.wrap ((IntKind.i64.wrap (x.a + x.n)) + x.s)))] (by kernel_rfl) ?_
 refine OI_end rfl ?_
 refine X_then ?_
 refine V_ret ?_
 exact X_return (nt (IntKind.i64.wrap ((IntKind.i64.wrap (x.a + x.n)) + x.s))) rfl ⟨rfl, hK0⟩

end Go.Al


namespace Go.Al
open Go Go.RowKit Go.Proofs
def castc (c : Int × Vt) : List Value := .int .i64 c.1 :: c.2.cells
theorem castc_len (c : Int × Vt) : (castc c).length = 7 := rfl
theorem castc_one (c : Int × Vt) : ∀ u ∈ castc c, u.oneCell' = true := one_all' rfl

set_option maxRecDepth 10000 in
theorem casts_at (F : Nat → Prop) (v : Nat) (P : VP) (s : VS) (a t : Int) (w : World) (h : Vot F w v P s) (hmx : (vrow s a t).length ≤ 100) : Calls Tryz.prog 19 #[.pointer (some ⟨v, 0, none⟩), .int .i64 a, .int .i64 t] w fun e w' => ∃ Ak capk, e = .returned (.tuple #[.slice Ak (vrow s a t).length capk, .bool true]) ∧ SlT w' 7 castc Ak capk (vrow s a t) ∧ Keep none_ w w' ∧ (∀ q, inA Ak q → w.heap.size ≤ q) := by
 have hFlt := Vot.lt h
 have hvlt := hFlt _ (Vot.at_ h)
 have hFo : ∀ q, F q → 0 ≤ q := fun q _ => Nat.zero_le q
 have hFr : ∀ q, F q → F q ∨ w.heap.size ≤ q := fun _ h => .inl h
 have hK0 : Keep none_ w w := Keep.refl _ _
 have hzhK0 := Keep.size hK0
 refine enterM Tryz.func19 rfl [pt v, nt a, nt t] 31 rfl rfl rfl ?_
 refine V_pick [(0, pt v), (1, nt a), (2, nt t)] rfl ?_
 refine V_seq ?_
 refine V_region ?_
 refine OI_alloc 39 (.slice none 0 0) [.slice none 0 0] (some 6) (by kernel_rfl) (by kernel_rfl) (by kernel_rfl) ?_
 intro b1 w1 e1 hb1 k1 z1
 have hsz2 := Keep.size k1
 replace h := Vot.keep h k1 (fun _ _ f => f)
 replace hK0 := Keep.tr hK0 (Keep.ofNone k1)
 have hb1lt := hb1.lt
 refine OI_alloc 4 (.bool false) [.bool false] (some 7) (by kernel_rfl) (by kernel_rfl) (by kernel_rfl) ?_
 intro b3 w3 e3 hb3 k3 z3
 have hsz4 := Keep.size k3
 replace hb1 := hb1.keep k3 (fun f => f)
 replace h := Vot.keep h k3 (fun _ _ f => f)
 replace hK0 := Keep.tr hK0 (Keep.ofNone k3)
 have hb3lt := hb3.lt
 refine OI_end rfl ?_
 refine X_then ?_
 refine V_seq ?_
 refine V_region ?_
 refine OI_static 3 [(6, pt b1), (7, pt b3), (12, pt v), (13, nt a), (14, nt t)] (by kernel_rfl) ?_
 refine OI_call { callee := (Callee.value (Operand.func 60)), args := #[(Operand.tmp 12), (Operand.tmp 13), (Operand.tmp 14)], argTypes := #[31, 3, 3] } 60 #[pt v, nt a, nt t] (some 15) (by kernel_rfl) (by kernel_rfl) (by kernel_rfl) (votesfn_spec _ rfl a t _) ?_
 rintro _ w5 ⟨bv7, bw8, bt9, rfl, hbv7, hbw8, hbt9, hk6, hgebv7, hgebw8, hgebt9⟩
 refine ⟨_, rfl, ?_⟩
 have hsz10 := Keep.size hk6
 replace hb1 := hb1.keep hk6 (fun f => f)
 replace hb3 := hb3.keep hk6 (fun f => f)
 replace h := Vot.keep h hk6 (fun _ _ f => f)
 replace hK0 := Keep.tr hK0 (Keep.ofNone hk6)
 have hbv7lt := hbv7.lt
 have hbw8lt := hbw8.lt
 have hbt9lt := hbt9.lt
 refine OI_static 5 [(6, pt b1), (7, pt b3), (8, .func (.func 94) #[] #[pt bv7, pt bw8, pt bt9])] (by kernel_rfl) ?_
 refine OI_end rfl ?_
 refine X_then ?_
 refine V_seq ?_
 refine V_seq ?_
 refine V_region ?_
 refine OI_static 2 [(6, pt b1), (7, pt b3), (8, .func (.func 94) #[] #[pt bv7, pt bw8, pt bt9]), (17, .bool false)] (by kernel_rfl) ?_
 refine OI_end rfl ?_
 refine X_then ?_
 refine V_false rfl ?_
 refine V_skip ?_
 refine X_then ?_
 refine V_seq ?_
 refine V_region ?_
 refine OI_alloc 39 (.slice none 0 0) [.slice none 0 0] (some 9) (by kernel_rfl) (by kernel_rfl) (by kernel_rfl) ?_
 intro b11 w11 e11 hb11 k11 z11
 have hsz12 := Keep.size k11
 replace hb1 := hb1.keep k11 (fun f => f)
 replace hb3 := hb3.keep k11 (fun f => f)
 replace hbv7 := hbv7.keep k11 (fun f => f)
 replace hbw8 := hbw8.keep k11 (fun f => f)
 replace hbt9 := hbt9.keep k11 (fun f => f)
 replace h := Vot.keep h k11 (fun _ _ f => f)
 replace hK0 := Keep.tr hK0 (Keep.ofNone k11)
 have hb11lt := hb11.lt
 refine OI_end rfl ?_
 refine X_then ?_
 refine V_seq ?_
 refine V_seq ?_
 refine V_region ?_
 refine OI_static 1 [(6, pt b1), (7, pt b3), (9, pt b11), (18, .func (.func 94) #[] #[pt bv7, pt bw8, pt bt9])] (by kernel_rfl) ?_
 refine OI_end rfl ?_
 refine X_then ?_
 refine V_block ?_
 obtain ⟨A13, cap13, hva13⟩ := Vot.arr h
 have hal13 := VotA.lenA hva13
 have hcl9 := Vot.cslen h
 have hvl9 := vrow_len s a t
 refine V_pick [(6, pt b1), (7, pt b3), (9, pt b11), (18, .func (.func 94) #[] #[pt bv7, pt bw8, pt bt9])] rfl ?_
 have hN0 : w.heap.size ≤ w11.heap.size := Keep.size hK0
 refine V_range2 (gf := 94) (caps := #[pt bv7, pt bw8, pt bt9]) (m := (vrow s a t).length) (by kernel_rfl) (by kernel_rfl) (by kernel_rfl) (votes1_iter bv7 bw8 bt9 v P.gv P.gr cap13 P.pp A13 s a t (by omega)) (⟨VotA.grat hva13, VotA.ok hva13 rfl (fun _ => rfl) hbv7 hbw8 hbt9⟩) (fun W W' h k => ⟨h.1.quiet k, h.2.quiet k⟩) (GV.enc2_size _) (fun M1 k W => ∃ Ak : Option Addr, ∃ capk : Nat, (Blk W b1 [.slice none 0 0] 39) ∧ (Blk W b3 [.bool false] 4) ∧ (Blk W bv7 [pt v] 31) ∧ (Blk W bw8 [nt a] 3) ∧ (Blk W bt9 [nt t] 3) ∧ (VotA A13 cap13 F W v P s) ∧ (Keep none_ w W) ∧ (Blk W b11 [.slice Ak (((vrow s a t).take k).length) capk] 39) ∧ (SlT W 7 castc Ak capk ((vrow s a t).take k)) ∧ (∀ q, inA Ak q → M1 ≤ q)) (fun M1 c k W => False) (fun M1 k W W' h hk => by obtain ⟨Ak, capk, jb1, jb3, jbv7, jbw8, jbt9, jhva13, jhK0, jb11, jAk, ownk⟩ := h; exact ⟨Ak, capk, jb1.quiet hk, jb3.quiet hk, jbv7.quiet hk, jbw8.quiet hk, jbt9.quiet hk, VotA.quiet jhva13 hk, jhK0.quiet hk (by omega), jb11.quiet hk, jAk.quiet hk, ownk⟩) (fun _ _ _ _ _ h _ => h.elim) (fun M1 hM1 => ⟨none, 0, hb1, hb3, hbv7, hbw8, hbt9, hva13, hK0, hb11, SlT.nil _ _ _, fun q h => (inA_none h).elim⟩) (fun M1 k W h => by obtain ⟨Ak, capk, jb1, jb3, jbv7, jbw8, jbt9, jhva13, jhK0, jb11, jAk, ownk⟩ := h; exact (VotA.ok jhva13 rfl (fun _ => rfl) jbv7 jbw8 jbt9)) ?_ ?_ (fun _ _ _ _ _ _ _ _ h _ => h.elim)
 ·
  intro lp D M1 k W hD hl hM hMW hkm ⟨Ak, capk, jb1, jb3, jbv7, jbw8, jbt9, jhva13, jhK0, jb11, jAk, ownk⟩ ⟨rr, hrr⟩ hDD
  have hzjhK0 := Keep.size jhK0
  have hb1lt := jb1.lt
  have hb3lt := jb3.lt
  have hbv7lt := jbv7.lt
  have hbw8lt := jbw8.lt
  have hbt9lt := jbt9.lt
  have hb11lt := jb11.lt
  have ltjAk := SlT.lt jAk
  obtain ⟨x, hx⟩ : ∃ x, (vrow s a t)[k]? = some x := ⟨_, List.getElem?_eq_getElem (by omega)⟩
  rw [GV.enc2_at hx]
  have hlk : ((vrow s a t).take k).length = k := by rw [List.length_take]; omega
  have hs1 : (vrow s a t).take (k + 1) = (vrow s a t).take k ++ [x] := by obtain ⟨h1, h2⟩ := List.getElem?_eq_some_iff.1 hx; rw [List.take_succ_eq_append_getElem h1, h2]
  refine V_pick [(6, pt b1), (7, pt b3), (9, pt b11), (19, nt x.1), (20, .agg (Vt.cells x.2).toArray)] rfl ?_
  have hfen : Keep (fen w11.heap.size M1) W W := Keep.refl _ _
  have hzhfen := Keep.size hfen
  refine V_seq ?_
  refine V_region ?_
  refine OI_static 1 [(6, pt b1), (7, pt b3), (9, pt b11), (10, nt x.1), (20, .agg (Vt.cells x.2).toArray)] (by kernel_rfl) ?_
  refine OI_end rfl ?_
  refine X_then ?_
  refine V_region ?_
  refine OI_alloc 23 (.agg #[nt 0, .bool false, nt 0, nt 0, nt 0, nt 0]) [nt 0, .bool false, nt 0, nt 0, nt 0, nt 0] (some 11) (by kernel_rfl) (by kernel_rfl) (by kernel_rfl) ?_
  intro b14 w14 e14 hb14 k14 z14
  have hsz15 := Keep.size k14
  replace jb1 := jb1.keep k14 (fun f => f)
  replace jb3 := jb3.keep k14 (fun f => f)
  replace jbv7 := jbv7.keep k14 (fun f => f)
  replace jbw8 := jbw8.keep k14 (fun f => f)
  replace jbt9 := jbt9.keep k14 (fun f => f)
  replace jb11 := jb11.keep k14 (fun f => f)
  replace jAk := SlT.keep0 jAk k14
  replace jhva13 := VotA.keep jhva13 k14 (fun _ _ f => f)
  replace jhK0 := Keep.tr jhK0 (Keep.ofNone k14)
  replace hfen := Keep.tr hfen (Keep.ofNone k14)
  have hb14lt := hb14.lt
  refine OI_set (m := 6) (kd := true) 23 (.tmp 11) (.tmp 20) 0 (.agg (Vt.cells x.2).toArray) (Vt.cells x.2) none (by kernel_rfl) (by kernel_rfl) (by kernel_rfl) hb14 (by kernel_rfl) rfl (Vt.len _) (Nat.le_of_ble_eq_true (by kernel_rfl)) (Vt.one _) ?_
  intro w16 hb14_19 hk17 hz18
  replace hb14_19 : Blk w16 b14 (Vt.cells x.2) 23 := (by rwa [over_whole (by rw [Vt.len]; rfl)] at hb14_19)
  have hsz20 := Keep.size hk17
  replace jb1 := jb1.keep hk17 (by show ¬ (_ = _); omega)
  replace jb3 := jb3.keep hk17 (by show ¬ (_ = _); omega)
  replace jbv7 := jbv7.keep hk17 (by show ¬ (_ = _); omega)
  replace jbw8 := jbw8.keep hk17 (by show ¬ (_ = _); omega)
  replace jbt9 := jbt9.keep hk17 (by show ¬ (_ = _); omega)
  replace jb11 := jb11.keep hk17 (by show ¬ (_ = _); omega)
  replace jAk := SlT.keep jAk hk17 (fun q hq hs => by have hs : q = b14 := hs; have g0 := ownk q hq; have g1 := ltjAk q hq; omega)
  replace jhva13 := VotA.keep jhva13 hk17 (fun q hq hs => by have hs : q = b14 := hs; have g0 := hFo q hq; have g1 := hFlt q hq; omega)
  replace jhK0 := Keep.fresh jhK0 hk17 (by intro i hi hs; first | exact hs | exact Or.inl hs | exact Or.inr hs | (exfalso; have hs2 : i = b14 := hs; omega))
  replace hfen := Keep.fresh hfen hk17 (by intro i hi hs; have hs2 : i = b14 := hs; show _ ∨ _; omega)
  refine OI_end rfl ?_
  refine X_begin2 hfen ?_
  intro W2 hk2 ⟨r2, hr2⟩ hD2
  have hsz21 := Keep.size hk2
  replace jb1 := Blk.quiet jb1 hk2
  replace jb3 := Blk.quiet jb3 hk2
  replace jbv7 := Blk.quiet jbv7 hk2
  replace jbw8 := Blk.quiet jbw8 hk2
  replace jbt9 := Blk.quiet jbt9 hk2
  replace jb11 := Blk.quiet jb11 hk2
  replace hb14_19 := Blk.quiet hb14_19 hk2
  replace jAk := SlT.quiet jAk hk2
  replace jhva13 := VotA.quiet jhva13 hk2
  replace jhK0 := Keep.quiet jhK0 hk2 (by omega)
  have hzhk2 := Keep.size hk2
  have hfenb : Keep (fen w11.heap.size M1) W2 W2 := Keep.refl _ _
  have hzhfenb := Keep.size hfenb
  refine V_block ?_
  refine V_seq ?_
  refine V_region ?_
  refine OI_cell 39 (.tmp 9) 0 (.slice Ak (((vrow s a t).take k).length) capk) (some 21) (by kernel_rfl) (by kernel_rfl) jb11 (m := 1) (by kernel_rfl) rfl ?_
  refine OI_static 2 [(6, pt b1), (7, pt b3), (9, pt b11), (11, pt b14), (21, .slice Ak (((vrow s a t).take k).length) capk), (22, nt x.1)] (by kernel_rfl) ?_
  refine OI_agg 23 (.tmp 11) 0 (Vt.cells x.2) (some 23) (by kernel_rfl) (by kernel_rfl) hb14_19 (m := 6) (by kernel_rfl) (take_all (Vt.len _)) (Vt.len _) ?_
  refine OI_static 4 [(6, pt b1), (7, pt b3), (9, pt b11), (21, .slice Ak (((vrow s a t).take k).length) capk), (24, .agg #[nt x.1, nt x.2.kind, .bool x.2.aye, nt x.2.level, nt x.2.a, nt x.2.n, nt x.2.s])] (by kernel_rfl) ?_
  refine OI_slit (E := 46) (zv := .agg #[nt 0, nt 0, .bool false, nt 0, nt 0, nt 0, nt 0]) (sz := 7) (by_ := 56) 39 1 #[(0, (Operand.tmp 24))] [.agg #[nt x.1, nt x.2.kind, .bool x.2.aye, nt x.2.level, nt x.2.a, nt x.2.n, nt x.2.s]] [nt x.1, nt x.2.kind, .bool x.2.aye, nt x.2.level, nt x.2.a, nt x.2.n, nt x.2.s] (some 25) (by kernel_rfl) (by kernel_rfl) (by kernel_rfl) (by omega) rfl (by omega) (by intro v hv; simp only [List.mem_cons, List.not_mem_nil, or_false] at hv; rcases hv with rfl <;> rfl) (by kernel_rfl) rfl ?_
  intro b22 w22 e22 hb22 k22 z22
  have hsz23 := Keep.size k22
  replace jb1 := jb1.keep k22 (fun f => f)
  replace jb3 := jb3.keep k22 (fun f => f)
  replace jbv7 := jbv7.keep k22 (fun f => f)
  replace jbw8 := jbw8.keep k22 (fun f => f)
  replace jbt9 := jbt9.keep k22 (fun f => f)
  replace jb11 := jb11.keep k22 (fun f => f)
  replace hb14_19 := hb14_19.keep k22 (fun f => f)
  replace jAk := SlT.keep0 jAk k22
  replace jhva13 := VotA.keep jhva13 k22 (fun _ _ f => f)
  replace jhK0 := Keep.tr jhK0 (Keep.ofNone k22)
  replace hfenb := Keep.tr hfenb (Keep.ofNone k22)
  have hb22lt := hb22.lt
  refine OI_append (t := 39) (at2 := 39) (E := 46) (E2 := 46) (sz := 7) (by_ := 56) (zv := .agg #[nt 0, nt 0, .bool false, nt 0, nt 0, nt 0, nt 0]) (m := ((vrow s a t).take k).length) (k := 1) (.tmp 21) (.tmp 25) (.slice Ak (((vrow s a t).take k).length) capk) (.slice (some ⟨b22, 0, none⟩) 1 1) (some 26) (by kernel_rfl) (by kernel_rfl) (by kernel_rfl) (by kernel_rfl) (by kernel_rfl) (by kernel_rfl) (by kernel_rfl) (SlT.slr jAk) (slr_one hb22 (castc_len x)) (castc_one x) (by first | omega | (simp only [List.length_nil]; omega)) (by omega) (by first | omega | (simp only [List.length_nil]; omega)) (by omega) ?_
  intro vv9 w24 hap
  obtain ⟨A24, cap24, rfl, hA24, hk24, own24x⟩ := app_one (f := castc) (xs := ((vrow s a t).take k)) (x := x) (A := Ak) (cap := capk) hap (fun x _ => castc_len x) (castc_len _)
  have own24 : ∀ q, inA A24 q → M1 ≤ q := fun q hq => by rcases own24x q hq with h | h; exact ownk q h; (show M1 ≤ q; omega)
  have hsz25 := Keep.size hk24
  replace jb1 := jb1.keep hk24 (fun hs => by have h1 := ownk _ hs; have h2 := ltjAk _ hs; omega)
  replace jb3 := jb3.keep hk24 (fun hs => by have h1 := ownk _ hs; have h2 := ltjAk _ hs; omega)
  replace jbv7 := jbv7.keep hk24 (fun hs => by have h1 := ownk _ hs; have h2 := ltjAk _ hs; omega)
  replace jbw8 := jbw8.keep hk24 (fun hs => by have h1 := ownk _ hs; have h2 := ltjAk _ hs; omega)
  replace jbt9 := jbt9.keep hk24 (fun hs => by have h1 := ownk _ hs; have h2 := ltjAk _ hs; omega)
  replace jb11 := jb11.keep hk24 (fun hs => by have h1 := ownk _ hs; have h2 := ltjAk _ hs; omega)
  replace hb14_19 := hb14_19.keep hk24 (fun hs => by have h1 := ownk _ hs; have h2 := ltjAk _ hs; omega)
  replace jhva13 := VotA.keep jhva13 hk24 (fun q hq hs => by have g0 := hFo q hq; have g1 := hFlt q hq; have h1 := ownk q hs; have h2 := ltjAk q hs; omega)
  replace jhK0 := Keep.fresh jhK0 hk24 (by intro i hi hs; first | exact hs | (exfalso; have h1 := ownk i hs; have h2 := ltjAk i hs; omega) | (have h1 := ownk i hs; have h2 := ltjAk i hs; show _ ∨ _; omega))
  replace hfenb := Keep.fresh hfenb hk24 (by intro i hi hs; have h1 := ownk i hs; have h2 := ltjAk i hs; show _ ∨ _; omega)
  have lt24 := SlT.lt hA24
  refine OI_set (m := 1) (kd := false) 39 (.tmp 9) (.tmp 26) 0 (.slice A24 ((((vrow s a t).take k) ++ [x]).length) cap24) [.slice A24 ((((vrow s a t).take k) ++ [x]).length) cap24] none (by kernel_rfl) (by kernel_rfl) (by kernel_rfl) jb11 (by kernel_rfl) (by kernel_rfl) (by kernel_rfl) (Nat.le_of_ble_eq_true (by kernel_rfl)) (by simp [Value.oneCell']) ?_
  intro w26 hb11_29 hk27 hz28
  replace hb11_29 : Blk w26 b11 [.slice A24 ((((vrow s a t).take k) ++ [x]).length) cap24] 39 := hb11_29
  have hsz30 := Keep.size hk27
  replace jb1 := jb1.keep hk27 (by show ¬ (_ = _); omega)
  replace jb3 := jb3.keep hk27 (by show ¬ (_ = _); omega)
  replace jbv7 := jbv7.keep hk27 (by show ¬ (_ = _); omega)
  replace jbw8 := jbw8.keep hk27 (by show ¬ (_ = _); omega)
  replace jbt9 := jbt9.keep hk27 (by show ¬ (_ = _); omega)
  replace hb14_19 := hb14_19.keep hk27 (by show ¬ (_ = _); omega)
  replace hA24 := SlT.keep hA24 hk27 (fun q hq hs => by have hs : q = b11 := hs; have g0 := own24 q hq; have g1 := lt24 q hq; omega)
  replace jhva13 := VotA.keep jhva13 hk27 (fun q hq hs => by have hs : q = b11 := hs; have g0 := hFo q hq; have g1 := hFlt q hq; omega)
  replace jhK0 := Keep.fresh jhK0 hk27 (by intro i hi hs; first | exact hs | exact Or.inl hs | exact Or.inr hs | (exfalso; have hs2 : i = b11 := hs; omega))
  replace hfenb := Keep.fresh hfenb hk27 (by intro i hi hs; have hs2 : i = b11 := hs; show _ ∨ _; omega)
  refine OI_end rfl ?_
  refine X_then ?_
  refine V_seq ?_
  refine V_region ?_
  refine OI_cell 39 (.tmp 9) 0 (.slice A24 ((((vrow s a t).take k) ++ [x]).length) cap24) (some 27) (by kernel_rfl) (by kernel_rfl) hb11_29 (m := 1) (by kernel_rfl) rfl ?_
  refine OI_static 3 [(6, pt b1), (7, pt b3), (29, .bool (decide ((((((vrow s a t).take k) ++ [x]).length : Nat) : Int) > 100)))] (by kernel_rfl) ?_
  refine OI_end rfl ?_
  refine X_then ?_
  refine V_if ((((((vrow s a t).take k) ++ [x]).length : Nat) : Int) > 100) (by kernel_rfl) (fun hc31 => ?_) (fun hc31 => ?_)
  ·
   exact (by simp only [List.length_append, List.length_cons, List.length_nil] at hc31; omega : False).elim
  ·
   refine V_skip ?_
   refine X_block ?_
   exact fun a _ => ⟨hfenb, A24, cap24, jb1, jb3, jbv7, jbw8, jbt9, jhva13, jhK0, by rw [hs1]; exact hb11_29, by rw [hs1]; exact hA24, own24⟩
 ·
  intro D M1 W hD hM ⟨Ak, capk, jb1, jb3, jbv7, jbw8, jbt9, jhva13, jhK0, jb11, jAk, ownk⟩ hDD
  have hzjhK0 := Keep.size jhK0
  have hb1lt := jb1.lt
  have hb3lt := jb3.lt
  have hbv7lt := jbv7.lt
  have hbw8lt := jbw8.lt
  have hbt9lt := jbt9.lt
  have hb11lt := jb11.lt
  have ltjAk := SlT.lt jAk
  rw [List.take_length] at jAk jb11
  refine X_block ?_
  refine X_then ?_
  refine V_seq ?_
  refine V_region ?_
  refine OI_cell 39 (.tmp 9) 0 (.slice Ak ((vrow s a t).length) capk) (some 30) (by kernel_rfl) (by kernel_rfl) jb11 (m := 1) (by kernel_rfl) rfl ?_
  refine OI_set (m := 1) (kd := false) 39 (.tmp 6) (.tmp 30) 0 (.slice Ak ((vrow s a t).length) capk) [.slice Ak ((vrow s a t).length) capk] none (by kernel_rfl) (by kernel_rfl) (by kernel_rfl) jb1 (by kernel_rfl) (by kernel_rfl) (by kernel_rfl) (Nat.le_of_ble_eq_true (by kernel_rfl)) (by simp [Value.oneCell']) ?_
  intro w32 hb1_35 hk33 hz34
  replace hb1_35 : Blk w32 b1 [.slice Ak ((vrow s a t).length) capk] 39 := hb1_35
  have hsz36 := Keep.size hk33
  replace jb3 := jb3.keep hk33 (by show ¬ (_ = _); omega)
  replace jbv7 := jbv7.keep hk33 (by show ¬ (_ = _); omega)
  replace jbw8 := jbw8.keep hk33 (by show ¬ (_ = _); omega)
  replace jbt9 := jbt9.keep hk33 (by show ¬ (_ = _); omega)
  replace jb11 := jb11.keep hk33 (by show ¬ (_ = _); omega)
  replace jAk := SlT.keep jAk hk33 (fun q hq hs => by have hs : q = b1 := hs; have g0 := ownk q hq; have g1 := ltjAk q hq; omega)
  replace jhva13 := VotA.keep jhva13 hk33 (fun q hq hs => by have hs : q = b1 := hs; have g0 := hFo q hq; have g1 := hFlt q hq; omega)
  replace jhK0 := Keep.fresh jhK0 hk33 (by intro i hi hs; first | exact hs | exact Or.inl hs | exact Or.inr hs | (exfalso; have hs2 : i = b1 := hs; omega))
  replace hDD := (Keep.block hk33 _ (Array.getElem?_eq_some_iff.1 hDD).1 (by show ¬ (_ = _); omega)).trans hDD
  refine OI_set (m := 1) (kd := false) 4 (.tmp 7) (.const (Value.bool true)) 0 (.bool true) [.bool true] none (by kernel_rfl) (by kernel_rfl) (by kernel_rfl) jb3 (by kernel_rfl) (by kernel_rfl) (by kernel_rfl) (Nat.le_of_ble_eq_true (by kernel_rfl)) (by simp [Value.oneCell']) ?_
  intro w37 hb3_40 hk38 hz39
  replace hb3_40 : Blk w37 b3 [.bool true] 4 := hb3_40
  have hsz41 := Keep.size hk38
  replace hb1_35 := hb1_35.keep hk38 (by show ¬ (_ = _); omega)
  replace jbv7 := jbv7.keep hk38 (by show ¬ (_ = _); omega)
  replace jbw8 := jbw8.keep hk38 (by show ¬ (_ = _); omega)
  replace jbt9 := jbt9.keep hk38 (by show ¬ (_ = _); omega)
  replace jb11 := jb11.keep hk38 (by show ¬ (_ = _); omega)
  replace jAk := SlT.keep jAk hk38 (fun q hq hs => by have hs : q = b3 := hs; have g0 := ownk q hq; have g1 := ltjAk q hq; omega)
  replace jhva13 := VotA.keep jhva13 hk38 (fun q hq hs => by have hs : q = b3 := hs; have g0 := hFo q hq; have g1 := hFlt q hq; omega)
  replace jhK0 := Keep.fresh jhK0 hk38 (by intro i hi hs; first | exact hs | exact Or.inl hs | exact Or.inr hs | (exfalso; have hs2 : i = b3 := hs; omega))
  replace hDD := (Keep.block hk38 _ (Array.getElem?_eq_some_iff.1 hDD).1 (by show ¬ (_ = _); omega)).trans hDD
  refine OI_end rfl ?_
  refine X_then ?_
  refine V_ret ?_
  exact leave1 (.tuple #[.slice Ak (vrow s a t).length capk, .bool true]) (.inl rfl) hDD (fun w' hk => ⟨res_cells2 (n1 := 1) (n2 := 1) rfl rfl rfl (by kernel_rfl) (by kernel_rfl) (Blk.quiet hb1_35 hk) (Blk.quiet hb3_40 hk) , ⟨Ak, capk, rfl, SlT.quiet jAk hk, Keep.quiet jhK0 hk (by omega), fun q h => (by have := ownk q h; omega)⟩⟩)
end Go.Al


namespace Go.Al
open Go Go.RowKit Go.Proofs
set_option maxRecDepth 10000 in
theorem rnew6_weak (A : Option Addr) (cap : Nat) (fs : List Int) (w : World) (hA0 : ArgT w 1 intc A cap fs) (hn : fs.length ≤ 100000) : Calls Tryz.prog 41 #[.slice A fs.length cap] w fun e w' => ∃ pv n, e = .returned (.tuple #[.pointer pv, .int .i64 n]) ∧ Keep none_ w w' := by
 have hA := hA0
 have hK0 : Keep none_ w w := Keep.refl _ _
 have hzhK0 := Keep.size hK0
 refine enterV Tryz.func41 rfl [.slice A fs.length cap] 51 rfl rfl rfl ?_
 refine V_pick [(0, .slice A fs.length cap)] rfl ?_
 refine V_seq ?_
 refine V_region ?_
 refine OI_static 2 [(0, .slice A fs.length cap)] (by kernel_rfl) ?_
 refine OI_end rfl ?_
 refine X_then ?_
 refine V_seq ?_
 refine V_seq ?_
 refine V_region ?_
 refine OI_static 3 [(0, .slice A fs.length cap), (9, .bool (decide (((fs.length : Nat) : Int) > 10)))] (by kernel_rfl) ?_
 refine OI_end rfl ?_
 refine X_then ?_
 refine V_if (((fs.length : Nat) : Int) > 10) (by kernel_rfl) (fun hc1 => ?_) (fun hc1 => ?_)
 ·
  refine V_seq ?_
  refine V_region ?_
  refine OI_static 2 [(2, .pointer none), (3, nt 1)] (by kernel_rfl) ?_
  refine OI_end rfl ?_
  refine X_then ?_
  refine V_ret ?_
  refine X_ret_then ?_
  exact X_return (.tuple #[.pointer none, nt 1]) rfl ⟨_, _, rfl, hK0⟩
 ·
  refine V_skip ?_
  refine X_then ?_
  refine V_seq ?_
  refine V_region ?_
  refine OI_make (E := 138) (sz := 3) (by_ := 40) (m := 10) (kd := .i64) (zv := .agg #[nt 0, nt 0, .slice none 0 0]) 133 (.const (Value.int IntKind.i64 10)) (.const (Value.int IntKind.i64 10)) ((List.replicate 10 [nt 0, nt 0, .slice none 0 0]).flatten) (some 10) (by kernel_rfl) (by kernel_rfl) (by kernel_rfl) (by kernel_rfl) (by kernel_rfl) (by decide) (by decide) (by kernel_rfl) ?_
  intro b2 w2 e2 hb2 k2 z2
  have hsz3 := Keep.size k2
  replace hA := ArgT.keep0 hA k2
  replace hK0 := Keep.tr hK0 (Keep.ofNone k2)
  have hb2lt := hb2.lt
  refine OI_static 2 [(0, .slice A fs.length cap), (11, .agg #[.slice (some ⟨b2, 0, none⟩) 10 10])] (by kernel_rfl) ?_
  refine OI_box 135 (.tmp 11) (.agg #[.slice (some ⟨b2, 0, none⟩) 10 10]) [.slice (some ⟨b2, 0, none⟩) 10 10] (some 12) (by kernel_rfl) (by kernel_rfl) (by kernel_rfl) ?_
  intro b4 w4 e4 hb4 k4 z4
  have hsz5 := Keep.size k4
  replace hb2 := hb2.keep k4 (fun f => f)
  replace hA := ArgT.keep0 hA k4
  replace hK0 := Keep.tr hK0 (Keep.ofNone k4)
  have hb4lt := hb4.lt
  refine OI_static 4 [(0, .slice A fs.length cap), (4, pt b4)] (by kernel_rfl) ?_
  refine OI_end rfl ?_
  refine X_then ?_
  refine V_seq ?_
  refine V_region ?_
  refine OI_static 1 [(0, .slice A fs.length cap), (4, pt b4), (5, nt 0)] (by kernel_rfl) ?_
  refine OI_end rfl ?_
  refine X_then ?_
  refine V_seq ?_
  refine V_seq ?_
  refine V_region ?_
  refine OI_static 1 [(0, .slice A fs.length cap), (4, pt b4), (5, nt 0), (6, nt 0)] (by kernel_rfl) ?_
  refine OI_end rfl ?_
  refine X_then ?_
  refine V_block ?_
  refine V_pick [(0, .slice A fs.length cap), (4, pt b4), (5, nt 0), (6, nt 0)] rfl ?_
  refine V_loop (fun k wI e => ∃ i : Nat, ∃ s5 : Int, ∃ Lx : List Value, (k + i = fs.length) ∧ (Blk wI b2 Lx 138) ∧ (Lx.length = 30) ∧ Keep (only b2) w4 wI ∧ e = [(0, .slice A fs.length cap), (4, pt b4), (5, nt s5), (6, nt ((i : Nat) : Int))]) fs.length ⟨0, 0, (List.replicate 10 [nt 0, nt 0, .slice none 0 0]).flatten, by omega, hb2, by decide, Keep.refl _ _, rfl⟩ ?_
  rintro k7 w6 _ ⟨i, s5, Lx, hki, hB, hLx, hk8, rfl⟩
  have hsz9 := Keep.size hk8
  replace hb4 := hb4.keep hk8 (by show ¬ (_ = _); omega)
  replace hA := ArgT.keep hA hk8 hA0 (fun k hk hs => by have hs : k = b2 := hs; omega)
  replace hK0 := Keep.fresh hK0 hk8 (by intro i hi hs; first | exact hs | exact Or.inl hs | exact Or.inr hs | (exfalso; have hs2 : i = b2 := hs; omega))
  have hzhk8 := Keep.size hk8
  have hb2lt := hB.lt
  refine V_seq ?_
  refine V_seq ?_
  refine V_region ?_
  refine OI_static 4 [(0, .slice A fs.length cap), (4, pt b4), (5, nt s5), (6, nt ((i : Nat) : Int)), (16, .bool (decide (((i : Nat) : Int) < ((fs.length : Nat) : Int))))] (by kernel_rfl) ?_
  refine OI_end rfl ?_
  refine X_then ?_
  refine V_if (((i : Nat) : Int) < ((fs.length : Nat) : Int)) (by kernel_rfl) (fun hc10 => ?_) (fun hc10 => ?_)
  ·
   refine V_skip ?_
   refine X_then ?_
   refine V_seq ?_
   refine V_block ?_
   refine V_seq ?_
   refine V_seq ?_
   refine V_region ?_
   refine OI_static 2 [(0, .slice A fs.length cap), (4, pt b4), (5, nt s5), (6, nt ((i : Nat) : Int)), (19, .slice A fs.length cap), (20, nt ((i : Nat) : Int))] (by kernel_rfl) ?_
   obtain ⟨b11, o11, L11, rfl, hat11⟩ := ArgT.open_ hA (by first | omega | (simp only [List.length_map]; omega) | (simp; done) | (simp; omega))
   have hb11lt0 := ArgT.lt hA0 (by first | omega | (simp only [List.length_map]; omega) | (simp; done) | (simp; omega))
   have hb11lt := hat11.blk.lt
   refine OI_pure (some 21) (.indexAddr 28 (.tmp 19) (.tmp 20)) (by kernel_rfl) (pure_idxN (b := b11) (o := o11) (len := fs.length) (cap := cap) (kd := .i64) (j := i) (E := 3) (sz := 1) (by_ := 8) (by kernel_rfl) (by kernel_rfl) (by kernel_rfl) (by omega)) ?_
   obtain ⟨x12, hx13⟩ : ∃ x, fs[i]? = some x := ⟨_, List.getElem?_eq_getElem (by first | omega | (simp only [List.length_map]; omega))⟩
   refine OI_cellR 3 (.tmp 21) (o11 + i * 1) (nt x12) (some 22) (by kernel_rfl) (by kernel_rfl) hat11.blk (m := 1) (by kernel_rfl) (AtR.cell0 hat11 (es_at hx13) rfl) ?_
   refine OI_static 6 [(0, .slice (some ⟨b11, o11, none⟩) fs.length cap), (4, pt b4), (5, nt s5), (6, nt ((i : Nat) : Int)), (24, .bool (decide (x12 < 0)))] (by kernel_rfl) ?_
   by_cases hg14 : x12 < 0
   ·
    refine OI_eq [(0, .slice (some ⟨b11, o11, none⟩) fs.length cap), (4, pt b4), (5, nt s5), (6, nt ((i : Nat) : Int)), (24, .bool true)] (by first | simp [hg14] | rfl) ?_
    refine OI_static 12 [(0, .slice (some ⟨b11, o11, none⟩) fs.length cap), (4, pt b4), (5, nt s5), (6, nt ((i : Nat) : Int)), (25, undef), (26, undef), (27, undef), (28, undef), (29, undef), (30, .bool true)] (by kernel_rfl) ?_
    refine OI_end rfl ?_
    refine X_then ?_
    refine V_true rfl ?_
    refine V_seq ?_
    refine V_region ?_
    refine OI_static 2 [(2, .pointer none), (3, nt 1)] (by kernel_rfl) ?_
    refine OI_end rfl ?_
    refine X_then ?_
    refine V_ret ?_
    refine X_ret_then ?_
    refine X_ret_block ?_
    refine X_ret_then ?_
    refine X_ret_then ?_
    refine X_ret_block ?_
    refine X_ret_then ?_
    exact X_return (.tuple #[.pointer none, nt 1]) rfl ⟨_, _, rfl, hK0⟩
   ·
    refine OI_eq [(0, .slice (some ⟨b11, o11, none⟩) fs.length cap), (4, pt b4), (5, nt s5), (6, nt ((i : Nat) : Int)), (24, .bool false)] (by first | simp [hg14] | rfl) ?_
    refine OI_static 8 [(0, .slice (some ⟨b11, o11, none⟩) fs.length cap), (4, pt b4), (5, nt s5), (6, nt ((i : Nat) : Int)), (24, .bool false), (25, .slice (some ⟨b11, o11, none⟩) fs.length cap), (26, nt ((i : Nat) : Int))] (by kernel_rfl) ?_
    refine OI_pure (some 27) (.indexAddr 28 (.tmp 25) (.tmp 26)) (by kernel_rfl) (pure_idxN (b := b11) (o := o11) (len := fs.length) (cap := cap) (kd := .i64) (j := i) (E := 3) (sz := 1) (by_ := 8) (by kernel_rfl) (by kernel_rfl) (by kernel_rfl) (by omega)) ?_
    refine OI_cellR 3 (.tmp 27) (o11 + i * 1) (nt x12) (some 28) (by kernel_rfl) (by kernel_rfl) hat11.blk (m := 1) (by kernel_rfl) (AtR.cell0 hat11 (es_at hx13) rfl) ?_
    refine OI_static 12 [(0, .slice (some ⟨b11, o11, none⟩) fs.length cap), (4, pt b4), (5, nt s5), (6, nt ((i : Nat) : Int)), (25, .slice (some ⟨b11, o11, none⟩) fs.length cap), (26, nt ((i : Nat) : Int)), (27, .pointer (some ⟨b11, o11 + i * 1, none⟩)), (28, nt x12), (29, .bool (decide (x12 > 1073741824))), (30, .bool (decide (x12 > 1073741824)))] (by kernel_rfl) ?_
    refine OI_end rfl ?_
    refine X_then ?_
    refine V_if (x12 > 1073741824) (by kernel_rfl) (fun hc15 => ?_) (fun hc15 => ?_)
    ·
     refine V_seq ?_
     refine V_region ?_
     refine OI_static 2 [(2, .pointer none), (3, nt 1)] (by kernel_rfl) ?_
     refine OI_end rfl ?_
     refine X_then ?_
     refine V_ret ?_
     refine X_ret_then ?_
     refine X_ret_block ?_
     refine X_ret_then ?_
     refine X_ret_then ?_
     refine X_ret_block ?_
     refine X_ret_then ?_
     exact X_return (.tuple #[.pointer none, nt 1]) rfl ⟨_, _, rfl, hK0⟩
    ·
     refine V_skip ?_
     refine X_then ?_
     refine V_seq ?_
     refine V_draws (acts [11]) (only b2) [[0, 1, 2, 3, 4, 5, 6, 7, 8, 9, 10, 11]] (by kernel_rfl) (by repeat first | exact sure_body (by rintro _ _ ⟨_, _, h, _⟩; exact ⟨_, h⟩) | refine sure_then ?_ | refine sure_block ?_ | refine sure_join ?_) (by kernel_rfl) ?_
     intro w17 hk16 he18 L hL19
     have hsz20 := Keep.size hk16
     replace hB := hB.keep hk16 (fun f => f)
     replace hb4 := hb4.keep hk16 (fun f => f)
     replace hat11 := hat11.keep hk16 (fun f => f)
     replace hK0 := Keep.tr hK0 (Keep.ofNone hk16)
     replace hk8 := Keep.tr hk8 (Keep.ofNone hk16)
     have qhB := hB
     have qhb4 := hb4
     have qhat11 := hat11
     have K21 : Keep (only b2) w17 w17 := Keep.refl _ _
     obtain rfl := List.mem_singleton.1 hL19
     refine GI_static [3, 4, 5, 6, 7, 8, 9, 10, 11] [(0, .slice (some ⟨b11, o11, none⟩) fs.length cap), (4, pt b4), (5, nt s5), (6, nt ((i : Nat) : Int)), (25, .slice (some ⟨b11, o11, none⟩) fs.length cap), (26, nt ((i : Nat) : Int)), (27, .pointer (some ⟨b11, o11 + i * 1, none⟩)), (28, nt x12), (29, .bool (decide (x12 > 1073741824))), (33, pt b4)] (by kernel_rfl) ?_
     refine GI_cell 133 (.tmp 33) 0 (.slice (some ⟨b2, 0, none⟩) 10 10) (some 34) (by kernel_rfl) (by kernel_rfl) (by kernel_rfl) qhb4 (by show ¬ (_ = _); omega) (m := 1) (by kernel_rfl) rfl ?_
     refine GI_static [7, 8, 9, 10, 11] [(0, .slice (some ⟨b11, o11, none⟩) fs.length cap), (4, pt b4), (5, nt s5), (6, nt ((i : Nat) : Int)), (25, .slice (some ⟨b11, o11, none⟩) fs.length cap), (26, nt ((i : Nat) : Int)), (27, .pointer (some ⟨b11, o11 + i * 1, none⟩)), (28, nt x12), (29, .bool (decide (x12 > 1073741824))), (34, .slice (some ⟨b2, 0, none⟩) 10 10), (35, nt ((i : Nat) : Int)), (36, .slice (some ⟨b11, o11, none⟩) fs.length cap), (37, nt ((i : Nat) : Int))] (by kernel_rfl) ?_
     refine GI_pure (some 38) (.indexAddr 28 (.tmp 36) (.tmp 37)) (by kernel_rfl) (by kernel_rfl) (pure_idxN (b := b11) (o := o11) (len := fs.length) (cap := cap) (kd := .i64) (j := i) (E := 3) (sz := 1) (by_ := 8) (by kernel_rfl) (by kernel_rfl) (by kernel_rfl) (by omega)) ?_
     refine GI_cellR 3 (.tmp 38) (o11 + i * 1) (nt x12) (some 39) (by kernel_rfl) (by kernel_rfl) (by kernel_rfl) qhat11.blk (by show ¬ (_ = _); omega) (m := 1) (by kernel_rfl) (AtR.cell0 qhat11 (es_at hx13) rfl) ?_
     refine GI_pure (some 40) (.indexAddr 133 (.tmp 34) (.tmp 35)) (by kernel_rfl) (by kernel_rfl) (pure_idxN (b := b2) (o := 0) (len := 10) (cap := 10) (kd := .i64) (j := i) (E := 138) (sz := 3) (by_ := 40) (by kernel_rfl) (by kernel_rfl) (by kernel_rfl) (by omega)) ?_
     refine GI_static [11] [(0, .slice (some ⟨b11, o11, none⟩) fs.length cap), (4, pt b4), (5, nt s5), (6, nt ((i : Nat) : Int)), (25, .slice (some ⟨b11, o11, none⟩) fs.length cap), (26, nt ((i : Nat) : Int)), (27, .pointer (some ⟨b11, o11 + i * 1, none⟩)), (28, nt x12), (29, .bool (decide (x12 > 1073741824))), (39, nt x12), (41, .pointer (some ⟨b2, 0 + i * 3, none⟩))] (by kernel_rfl) ?_
     refine GI_final 11 (by kernel_rfl) (by kernel_rfl) ?_
     refine OI_set (m := 1) (kd := false) 3 (.tmp 41) (.tmp 39) (0 + i * 3) (nt x12) [nt x12] none (by kernel_rfl) (by kernel_rfl) (by kernel_rfl) hB (by kernel_rfl) (by kernel_rfl) (by kernel_rfl) (by rw [hLx]; show 0 + i * 3 + 1 ≤ 30; omega) (by simp [Value.oneCell']) ?_
     intro w22 hb2_25 hk23 hz24
     replace hb2_25 : Blk w22 b2 (over Lx (0 + i * 3) [nt x12]) 138 := hb2_25
     have hsz26 := Keep.size hk23
     replace hb4 := hb4.keep hk23 (by show ¬ (_ = _); omega)
     replace hat11 := hat11.keep hk23 (by show ¬ (_ = _); omega)
     replace hK0 := Keep.fresh hK0 hk23 (by intro i hi hs; first | exact hs | exact Or.inl hs | exact Or.inr hs | (exfalso; have hs2 : i = b2 := hs; omega))
     replace hk8 := Keep.fresh hk8 hk23 (by intro i hi hs; first | exact hs | exact Or.inl hs | exact Or.inr hs | (exfalso; have hs2 : i = b2 := hs; omega))
     refine OI_end rfl ?_
     refine X_then ?_
     refine V_region ?_
     refine OI_static 3 [(0, .slice (some ⟨b11, o11, none⟩) fs.length cap), (4, pt b4), (6, nt ((i : Nat) : Int)), (25, .slice (some ⟨b11, o11, none⟩) fs.length cap), (26, nt ((i : Nat) : Int)), (27, .pointer (some ⟨b11, o11 + i * 1, none⟩)), (28, nt x12), (29, .bool (decide (x12 > 1073741824))), (42, nt s5), (43, .slice (some ⟨b11, o11, none⟩) fs.length cap), (44, nt ((i : Nat) : Int))] (by kernel_rfl) ?_
     refine OI_pure (some 45) (.indexAddr 28 (.tmp 43) (.tmp 44)) (by kernel_rfl) (pure_idxN (b := b11) (o := o11) (len := fs.length) (cap := cap) (kd := .i64) (j := i) (E := 3) (sz := 1) (by_ := 8) (by kernel_rfl) (by kernel_rfl) (by kernel_rfl) (by omega)) ?_
     refine OI_cellR 3 (.tmp 45) (o11 + i * 1) (nt x12) (some 46) (by kernel_rfl) (by kernel_rfl) hat11.blk (m := 1) (by kernel_rfl) (AtR.cell0 hat11 (es_at hx13) rfl) ?_
     refine OI_static 7 [(0, .slice (some ⟨b11, o11, none⟩) fs.length cap), (4, pt b4), (5, nt (IntKind.i64.wrap (s5 + x12))), (6, nt ((i : Nat) : Int)), (25, .slice (some ⟨b11, o11, none⟩) fs.length cap), (26, nt ((i : Nat) : Int)), (27, .pointer (some ⟨b11, o11 + i * 1, none⟩)), (28, nt x12), (29, .bool (decide (x12 > 1073741824)))] (by kernel_rfl) ?_
     refine OI_end rfl ?_
     refine X_block ?_
     refine X_then ?_
     refine V_region ?_
     have hw27 : IntKind.i64.wrap (((i : Nat) : Int) + 1) = ((i + 1 : Nat) : Int) := (wrap64_id (by omega) (by omega)).trans (by omega)
     refine OI_static 2 [(0, .slice (some ⟨b11, o11, none⟩) fs.length cap), (4, pt b4), (5, nt (IntKind.i64.wrap (s5 + x12))), (18, nt (IntKind.i64.wrap (((i : Nat) : Int) + 1))), (25, .slice (some ⟨b11, o11, none⟩) fs.length cap), (26, nt ((i : Nat) : Int)), (27, .pointer (some ⟨b11, o11 + i * 1, none⟩)), (28, nt x12), (29, .bool (decide (x12 > 1073741824)))] (by kernel_rfl) ?_
     refine OI_eq [(0, .slice (some ⟨b11, o11, none⟩) fs.length cap), (4, pt b4), (5, nt (IntKind.i64.wrap (s5 + x12))), (18, nt ((i + 1 : Nat) : Int)), (25, .slice (some ⟨b11, o11, none⟩) fs.length cap), (26, nt ((i : Nat) : Int)), (27, .pointer (some ⟨b11, o11 + i * 1, none⟩)), (28, nt x12), (29, .bool (decide (x12 > 1073741824)))] (by rw [hw27]) ?_
     refine OI_static 3 [(0, .slice (some ⟨b11, o11, none⟩) fs.length cap), (4, pt b4), (5, nt (IntKind.i64.wrap (s5 + x12))), (6, nt ((i + 1 : Nat) : Int)), (25, .slice (some ⟨b11, o11, none⟩) fs.length cap), (26, nt ((i : Nat) : Int)), (27, .pointer (some ⟨b11, o11 + i * 1, none⟩)), (28, nt x12), (29, .bool (decide (x12 > 1073741824)))] (by kernel_rfl) ?_
     refine OI_end rfl ?_
     exact V_again (k7 - 1) (by omega) [(0, .slice (some ⟨b11, o11, none⟩) fs.length cap), (4, pt b4), (5, nt (IntKind.i64.wrap (s5 + x12))), (6, nt ((i + 1 : Nat) : Int))] rfl ⟨i + 1, IntKind.i64.wrap (s5 + x12), (over Lx (0 + i * 3) [nt x12]), by omega, hb2_25, by rw [over_length (by rw [hLx]; show 0 + i * 3 + 1 ≤ 30; omega)]; exact hLx, hk8, rfl⟩
  ·
   refine V_exit ?_
   refine X_exit_then ?_
   refine X_exit_then ?_
   refine X_exit_here ?_
   refine X_then ?_
   refine V_seq ?_
   refine V_seq ?_
   refine V_region ?_
   refine OI_static 2 [(4, pt b4), (49, .bool (decide (s5 > 1073741824)))] (by kernel_rfl) ?_
   refine OI_end rfl ?_
   refine X_then ?_
   refine V_if (s5 > 1073741824) (by kernel_rfl) (fun hc28 => ?_) (fun hc28 => ?_)
   ·
    refine V_seq ?_
    refine V_region ?_
    refine OI_static 2 [(2, .pointer none), (3, nt 1)] (by kernel_rfl) ?_
    refine OI_end rfl ?_
    refine X_then ?_
    refine V_ret ?_
    refine X_ret_then ?_
    exact X_return (.tuple #[.pointer none, nt 1]) rfl ⟨_, _, rfl, hK0⟩
   ·
    refine V_skip ?_
    refine X_then ?_
    refine V_seq ?_
    refine V_region ?_
    refine OI_static 3 [(2, pt b4), (3, nt 0)] (by kernel_rfl) ?_
    refine OI_end rfl ?_
    refine X_then ?_
    refine V_ret ?_
    exact X_return (.tuple #[pt b4, nt 0]) rfl ⟨_, _, rfl, hK0⟩

set_option maxRecDepth 10000 in
theorem rnew11_weak (w : World) : Calls Tryz.prog 43 #[] w fun e w' => ∃ pv, e = .returned (.pointer pv) ∧ Keep none_ w w' := by
 have hK0 : Keep none_ w w := Keep.refl _ _
 have hzhK0 := Keep.size hK0
 refine enterV Tryz.func43 rfl [] 5 rfl rfl rfl ?_
 refine V_pick [] rfl ?_
 refine V_seq ?_
 refine V_region ?_
 refine OI_static 1 [] (by kernel_rfl) ?_
 refine OI_end rfl ?_
 refine X_then ?_
 refine V_seq ?_
 refine V_draws (acts [0, 1, 3]) none_ [[0, 1, 2, 3, 4], [1, 0, 2, 3, 4]] (by kernel_rfl) (by repeat first | exact sure_body (by rintro _ _ ⟨_, h, _⟩; exact ⟨_, h⟩) | refine sure_then ?_ | refine sure_block ?_ | refine sure_join ?_) (by kernel_rfl) ?_
 intro w2 hk1 he3 L hL4
 have hsz5 := Keep.size hk1
 replace hK0 := Keep.tr hK0 (Keep.ofNone hk1)
 have K6 : Keep none_ w2 w2 := Keep.refl _ _
 simp only [List.mem_cons, List.not_mem_nil, or_false] at hL4
 rcases hL4 with rfl | rfl
 ·
  refine GI_make (E := 73) (sz := 7) (by_ := 56) (m := 12) (kd := .i64) (zv := .agg #[.bool false, nt 0, nt 0, nt 0, nt 0, nt 0, nt 0]) 74 (.const (Value.int IntKind.i64 12)) (.const (Value.int IntKind.i64 12)) ((List.replicate 12 [.bool false, nt 0, nt 0, nt 0, nt 0, nt 0, nt 0]).flatten) (some 1) (by kernel_rfl) (by kernel_rfl) K6 (by kernel_rfl) (by kernel_rfl) (by kernel_rfl) (by kernel_rfl) (by decide) (by decide) (by kernel_rfl) ?_
  intro b7 w7 e7 hb7 k7 z7 K8
  have hsz9 := Keep.size k7
  replace hK0 := Keep.tr hK0 (Keep.ofNone k7)
  have hb7lt := hb7.lt
  refine GI_make (E := 167) (sz := 9) (by_ := 88) (m := 40) (kd := .i64) (zv := .agg #[.slice none 0 0, .bool false, nt 0, nt 0, nt 0, nt 0, nt 0, nt 0, nt 0]) 75 (.const (Value.int IntKind.i64 40)) (.const (Value.int IntKind.i64 40)) ((List.replicate 40 [.slice none 0 0, .bool false, nt 0, nt 0, nt 0, nt 0, nt 0, nt 0, nt 0]).flatten) (some 2) (by kernel_rfl) (by kernel_rfl) K8 (by kernel_rfl) (by kernel_rfl) (by kernel_rfl) (by kernel_rfl) (by decide) (by decide) (by kernel_rfl) ?_
  intro b10 w10 e10 hb10 k10 z10 K11
  have hsz12 := Keep.size k10
  replace hb7 := hb7.keep k10 (fun f => f)
  replace hK0 := Keep.tr hK0 (Keep.ofNone k10)
  have hb10lt := hb10.lt
  refine GI_static [3, 4] [(3, .agg #[.slice (some ⟨b7, 0, none⟩) 12 12, .slice (some ⟨b10, 0, none⟩) 40 40])] (by kernel_rfl) ?_
  refine GI_box 77 (.tmp 3) (.agg #[.slice (some ⟨b7, 0, none⟩) 12 12, .slice (some ⟨b10, 0, none⟩) 40 40]) [.slice (some ⟨b7, 0, none⟩) 12 12, .slice (some ⟨b10, 0, none⟩) 40 40] (some 4) (by kernel_rfl) (by kernel_rfl) K11 (by kernel_rfl) (by kernel_rfl) ?_
  intro b13 w13 e13 hb13 k13 z13 K14
  have hsz15 := Keep.size k13
  replace hb7 := hb7.keep k13 (fun f => f)
  replace hb10 := hb10.keep k13 (fun f => f)
  replace hK0 := Keep.tr hK0 (Keep.ofNone k13)
  have hb13lt := hb13.lt
  refine GI_static [] [(0, pt b13)] (by kernel_rfl) ?_
  refine GI_end ?_
  refine X_then ?_
  refine V_ret ?_
  exact X_return _ rfl ⟨_, rfl, hK0⟩
 ·
  refine GI_make (E := 167) (sz := 9) (by_ := 88) (m := 40) (kd := .i64) (zv := .agg #[.slice none 0 0, .bool false, nt 0, nt 0, nt 0, nt 0, nt 0, nt 0, nt 0]) 75 (.const (Value.int IntKind.i64 40)) (.const (Value.int IntKind.i64 40)) ((List.replicate 40 [.slice none 0 0, .bool false, nt 0, nt 0, nt 0, nt 0, nt 0, nt 0, nt 0]).flatten) (some 2) (by kernel_rfl) (by kernel_rfl) K6 (by kernel_rfl) (by kernel_rfl) (by kernel_rfl) (by kernel_rfl) (by decide) (by decide) (by kernel_rfl) ?_
  intro b16 w16 e16 hb16 k16 z16 K17
  have hsz18 := Keep.size k16
  replace hK0 := Keep.tr hK0 (Keep.ofNone k16)
  have hb16lt := hb16.lt
  refine GI_make (E := 73) (sz := 7) (by_ := 56) (m := 12) (kd := .i64) (zv := .agg #[.bool false, nt 0, nt 0, nt 0, nt 0, nt 0, nt 0]) 74 (.const (Value.int IntKind.i64 12)) (.const (Value.int IntKind.i64 12)) ((List.replicate 12 [.bool false, nt 0, nt 0, nt 0, nt 0, nt 0, nt 0]).flatten) (some 1) (by kernel_rfl) (by kernel_rfl) K17 (by kernel_rfl) (by kernel_rfl) (by kernel_rfl) (by kernel_rfl) (by decide) (by decide) (by kernel_rfl) ?_
  intro b19 w19 e19 hb19 k19 z19 K20
  have hsz21 := Keep.size k19
  replace hb16 := hb16.keep k19 (fun f => f)
  replace hK0 := Keep.tr hK0 (Keep.ofNone k19)
  have hb19lt := hb19.lt
  refine GI_static [3, 4] [(3, .agg #[.slice (some ⟨b19, 0, none⟩) 12 12, .slice (some ⟨b16, 0, none⟩) 40 40])] (by kernel_rfl) ?_
  refine GI_box 77 (.tmp 3) (.agg #[.slice (some ⟨b19, 0, none⟩) 12 12, .slice (some ⟨b16, 0, none⟩) 40 40]) [.slice (some ⟨b19, 0, none⟩) 12 12, .slice (some ⟨b16, 0, none⟩) 40 40] (some 4) (by kernel_rfl) (by kernel_rfl) K20 (by kernel_rfl) (by kernel_rfl) ?_
  intro b22 w22 e22 hb22 k22 z22 K23
  have hsz24 := Keep.size k22
  replace hb16 := hb16.keep k22 (fun f => f)
  replace hb19 := hb19.keep k22 (fun f => f)
  replace hK0 := Keep.tr hK0 (Keep.ofNone k22)
  have hb22lt := hb22.lt
  refine GI_static [] [(0, pt b22)] (by kernel_rfl) ?_
  refine GI_end ?_
  refine X_then ?_
  refine V_ret ?_
  exact X_return _ rfl ⟨_, rfl, hK0⟩

def msk24 (fs : List Int) : List Int := fs.map fun x => bAnd x 16777215
theorem msk24_at {fs : List Int} {x : Int} (h : x ∈ msk24 fs) : 0 ≤ x ∧ x ≤ 16777215 := by
  obtain ⟨y, _, rfl⟩ := List.mem_map.1 h
  exact bAnd_le y 16777215 (by decide)
theorem msk24_step {fs : List Int} {i : Nat} {x : Int} (h : fs[i]? = some x) : msk24 (fs.take (i + 1)) = msk24 (fs.take i) ++ [bAnd x 16777215] := by
  obtain ⟨h1, rfl⟩ := List.getElem?_eq_some_iff.1 h
  unfold msk24; rw [List.take_succ_eq_append_getElem h1, List.map_append]; rfl
theorem tot_newX_step (fs : List Int) (n : Nat) : tot (newX fs (n + 1)) = tot (newX fs n) + (fs[n]?).getD 0 := by
  have happ : ∀ (a b : List Acc), tot (a ++ b) = tot a + tot b := by
    intro a b
    induction a with
    | nil => simp [tot]
    | cons y l ih => simp only [List.cons_append, tot, ih]; omega
  rw [newX_succ, happ]
  simp only [tot]
  omega
theorem newX_tot24 {fs : List Int} (h : ∀ x ∈ fs, 0 ≤ x ∧ x ≤ 16777215) : ∀ i : Nat, tot (newX fs i) ≤ i * 16777215
  | 0 => by simp [newX, tot]
  | i + 1 => by
    have ih := newX_tot24 h i
    rw [tot_newX_step]
    have : (fs[i]?).getD 0 ≤ 16777215 := by
      cases hf : fs[i]? with
      | none => simp
      | some x => exact (h x (List.mem_of_getElem? hf)).2
    omega
theorem msk24_ok {fs : List Int} (h : fs.length ≤ 10) : okP (msk24 fs) :=
  ⟨by simpa [msk24] using h, fun x hx => by have := msk24_at hx; omega, by have := newX_tot24 (fs := msk24 fs) (fun x hx => msk24_at hx) 10; omega⟩

set_option maxRecDepth 10000 in
theorem begin_weak (A : Option Addr) (cap : Nat) (fs : List Int) (w : World) (hA0 : ArgT w 1 intc A cap fs) (hn : fs.length ≤ 9223372036854775807) : Calls Tryz.prog 15 #[.slice A fs.length cap] w fun e w' => ∃ b v l F G xv yv, e = .returned (.pointer (some ⟨b, 0, none⟩)) ∧ Blk w' b [.pointer (some ⟨l, 0, none⟩), .pointer (some ⟨v, 0, none⟩), .pointer xv, .pointer yv, .int .i64 0] 35 ∧ VotT F w' v VS.zero ∧ Led G w' l (newX (msk24 (fs.take 10)) 10) [] ∧ Keep none_ w w' ∧ w.heap.size ≤ b ∧ (∀ q, F q → w.heap.size ≤ q ∧ q ≠ b) ∧ (∀ q, G q → w.heap.size ≤ q ∧ q ≠ b) ∧ (∀ q, F q → ¬ G q) := by
 have hA := hA0
 have hK0 : Keep none_ w w := Keep.refl _ _
 have hzhK0 := Keep.size hK0
 refine enterV Tryz.func15 rfl [.slice A fs.length cap] 58 rfl rfl rfl ?_
 refine V_pick [(0, .slice A fs.length cap)] rfl ?_
 refine V_seq ?_
 refine V_region ?_
 refine OI_static 1 [(0, .slice A fs.length cap)] (by kernel_rfl) ?_
 refine OI_end rfl ?_
 refine X_then ?_
 refine V_seq ?_
 refine V_region ?_
 refine OI_static 1 [(0, .slice A fs.length cap), (3, .slice none 0 0)] (by kernel_rfl) ?_
 refine OI_end rfl ?_
 refine X_then ?_
 refine V_seq ?_
 refine V_seq ?_
 refine V_region ?_
 refine OI_static 1 [(0, .slice A fs.length cap), (3, .slice none 0 0), (4, nt 0)] (by kernel_rfl) ?_
 refine OI_end rfl ?_
 refine X_then ?_
 refine V_block ?_
 refine V_pick [(0, .slice A fs.length cap), (3, .slice none 0 0), (4, nt 0)] rfl ?_
 refine V_loop (fun k wI e => ∃ i : Nat, ∃ A2 : Option Addr, ∃ cap2 : Nat, ∃ ms : List Int, (k + i = min fs.length 10) ∧ (ms = msk24 (fs.take i)) ∧ (SlT wI 1 intc A2 cap2 ms) ∧ (∀ q, inA A2 q → w.heap.size ≤ q) ∧ Keep none_ w wI ∧ e = [(0, .slice A fs.length cap), (3, .slice A2 ms.length cap2), (4, nt ((i : Nat) : Int))]) (min fs.length 10) ⟨0, none, 0, [], by omega, rfl, SlT.nil _ _ _, fun q h => (inA_none h).elim, Keep.refl _ _, rfl⟩ ?_
 rintro k2 w1 _ ⟨i, A2, cap2, ms, hki, hms, hA2, ow2, hk3, rfl⟩
 have hsz4 := Keep.size hk3
 replace hA := ArgT.keep0 hA hk3
 replace hK0 := Keep.tr hK0 (Keep.ofNone hk3)
 have hzhk3 := Keep.size hk3
 have lt2 := SlT.lt hA2
 have hml : ms.length = i := by rw [hms]; simp [msk24]; omega
 refine V_seq ?_
 refine V_seq ?_
 refine V_region ?_
 refine OI_static 5 [(0, .slice A fs.length cap), (3, .slice A2 ms.length cap2), (4, nt ((i : Nat) : Int)), (14, .bool (decide (((i : Nat) : Int) < ((fs.length : Nat) : Int))))] (by kernel_rfl) ?_
 by_cases hg5 : ((i : Nat) : Int) < ((fs.length : Nat) : Int)
 ·
  refine OI_eq [(0, .slice A fs.length cap), (3, .slice A2 ms.length cap2), (4, nt ((i : Nat) : Int)), (14, .bool true)] (by first | simp [hg5] | rfl) ?_
  refine OI_static 8 [(0, .slice A fs.length cap), (3, .slice A2 ms.length cap2), (4, nt ((i : Nat) : Int)), (15, nt ((i : Nat) : Int)), (16, .bool (decide (((i : Nat) : Int) < 10))), (17, .bool (decide (((i : Nat) : Int) < 10)))] (by kernel_rfl) ?_
  refine OI_end rfl ?_
  refine X_then ?_
  refine V_if (((i : Nat) : Int) < 10) (by kernel_rfl) (fun hc6 => ?_) (fun hc6 => ?_)
  ·
   refine V_skip ?_
   refine X_then ?_
   refine V_seq ?_
   refine V_block ?_
   refine V_region ?_
   refine OI_static 3 [(0, .slice A fs.length cap), (4, nt ((i : Nat) : Int)), (15, nt ((i : Nat) : Int)), (16, .bool (decide (((i : Nat) : Int) < 10))), (20, .slice A2 ms.length cap2), (21, .slice A fs.length cap), (22, nt ((i : Nat) : Int))] (by kernel_rfl) ?_
   obtain ⟨b7, o7, L7, rfl, hat7⟩ := ArgT.open_ hA (by first | omega | (simp only [List.length_map]; omega) | (simp; done) | (simp; omega))
   have hb7lt0 := ArgT.lt hA0 (by first | omega | (simp only [List.length_map]; omega) | (simp; done) | (simp; omega))
   have hb7lt := hat7.blk.lt
   refine OI_pure (some 23) (.indexAddr 28 (.tmp 21) (.tmp 22)) (by kernel_rfl) (pure_idxN (b := b7) (o := o7) (len := fs.length) (cap := cap) (kd := .i64) (j := i) (E := 3) (sz := 1) (by_ := 8) (by kernel_rfl) (by kernel_rfl) (by kernel_rfl) (by omega)) ?_
   obtain ⟨x8, hx9⟩ : ∃ x, fs[i]? = some x := ⟨_, List.getElem?_eq_getElem (by first | omega | (simp only [List.length_map]; omega))⟩
   refine OI_cellR 3 (.tmp 23) (o7 + i * 1) (nt x8) (some 24) (by kernel_rfl) (by kernel_rfl) hat7.blk (m := 1) (by kernel_rfl) (AtR.cell0 hat7 (es_at hx9) rfl) ?_
   refine OI_static 6 [(0, .slice (some ⟨b7, o7, none⟩) fs.length cap), (4, nt ((i : Nat) : Int)), (15, nt ((i : Nat) : Int)), (16, .bool (decide (((i : Nat) : Int) < 10))), (20, .slice A2 ms.length cap2), (25, nt (bAnd x8 16777215))] (by kernel_rfl) ?_
   refine OI_slit (E := 3) (zv := nt 0) (sz := 1) (by_ := 8) 28 1 #[(0, (Operand.tmp 25))] [nt (bAnd x8 16777215)] [nt (bAnd x8 16777215)] (some 26) (by kernel_rfl) (by kernel_rfl) (by kernel_rfl) (by omega) rfl (by omega) (by intro v hv; simp only [List.mem_cons, List.not_mem_nil, or_false] at hv; rcases hv with rfl <;> rfl) (by kernel_rfl) rfl ?_
   intro b10 w10 e10 hb10 k10 z10
   have hsz11 := Keep.size k10
   replace hat7 := hat7.keep k10 (fun f => f)
   replace hA2 := SlT.keep0 hA2 k10
   replace hK0 := Keep.tr hK0 (Keep.ofNone k10)
   replace hk3 := Keep.tr hk3 (Keep.ofNone k10)
   have hb10lt := hb10.lt
   refine OI_append (t := 28) (at2 := 28) (E := 3) (E2 := 3) (sz := 1) (by_ := 8) (zv := nt 0) (m := ms.length) (k := 1) (.tmp 20) (.tmp 26) (.slice A2 ms.length cap2) (.slice (some ⟨b10, 0, none⟩) 1 1) (some 27) (by kernel_rfl) (by kernel_rfl) (by kernel_rfl) (by kernel_rfl) (by kernel_rfl) (by kernel_rfl) (by kernel_rfl) (SlT.slr hA2) (slr_one hb10 (intc_len (bAnd x8 16777215))) (intc_one (bAnd x8 16777215)) (by first | omega | (simp only [List.length_nil]; omega)) (by omega) (by first | omega | (simp only [List.length_nil]; omega)) (by omega) ?_
   intro vv9 w12 hap
   obtain ⟨A12, cap12, rfl, hA12, hk12, own12x⟩ := app_one (f := intc) (xs := ms) (x := (bAnd x8 16777215)) (A := A2) (cap := cap2) hap (fun x _ => intc_len x) (intc_len _)
   have own12 : ∀ q, inA A12 q → w.heap.size ≤ q := fun q hq => by rcases own12x q hq with h | h; exact ow2 q h; (show w.heap.size ≤ q; omega)
   have hsz13 := Keep.size hk12
   replace hat7 := hat7.keep hk12 (fun hs => by have h1 := ow2 _ hs; have h2 := lt2 _ hs; omega)
   replace hK0 := Keep.fresh hK0 hk12 (by intro i hi hs; first | exact hs | (exfalso; have h1 := ow2 i hs; have h2 := lt2 i hs; omega) | (have h1 := ow2 i hs; have h2 := lt2 i hs; show _ ∨ _; omega))
   replace hk3 := Keep.fresh hk3 hk12 (by intro i hi hs; first | exact hs | (exfalso; have h1 := ow2 i hs; have h2 := lt2 i hs; omega) | (have h1 := ow2 i hs; have h2 := lt2 i hs; show _ ∨ _; omega))
   have lt12 := SlT.lt hA12
   refine OI_static 9 [(0, .slice (some ⟨b7, o7, none⟩) fs.length cap), (3, .slice A12 ((ms ++ [bAnd x8 16777215]).length) cap12), (4, nt ((i : Nat) : Int)), (15, nt ((i : Nat) : Int)), (16, .bool (decide (((i : Nat) : Int) < 10)))] (by kernel_rfl) ?_
   refine OI_end rfl ?_
   refine X_block ?_
   refine X_then ?_
   refine V_region ?_
   have hw14 : IntKind.i64.wrap (((i : Nat) : Int) + 1) = ((i + 1 : Nat) : Int) := (wrap64_id (by omega) (by omega)).trans (by omega)
   refine OI_static 2 [(0, .slice (some ⟨b7, o7, none⟩) fs.length cap), (3, .slice A12 ((ms ++ [bAnd x8 16777215]).length) cap12), (15, nt ((i : Nat) : Int)), (16, .bool (decide (((i : Nat) : Int) < 10))), (19, nt (IntKind.i64.wrap (((i : Nat) : Int) + 1)))] (by kernel_rfl) ?_
   refine OI_eq [(0, .slice (some ⟨b7, o7, none⟩) fs.length cap), (3, .slice A12 ((ms ++ [bAnd x8 16777215]).length) cap12), (15, nt ((i : Nat) : Int)), (16, .bool (decide (((i : Nat) : Int) < 10))), (19, nt ((i + 1 : Nat) : Int))] (by rw [hw14]) ?_
   refine OI_static 3 [(0, .slice (some ⟨b7, o7, none⟩) fs.length cap), (3, .slice A12 ((ms ++ [bAnd x8 16777215]).length) cap12), (4, nt ((i + 1 : Nat) : Int)), (15, nt ((i : Nat) : Int)), (16, .bool (decide (((i : Nat) : Int) < 10)))] (by kernel_rfl) ?_
   refine OI_end rfl ?_
   exact V_again (k2 - 1) (by omega) [(0, .slice (some ⟨b7, o7, none⟩) fs.length cap), (3, .slice A12 ((ms ++ [bAnd x8 16777215]).length) cap12), (4, nt ((i + 1 : Nat) : Int))] rfl ⟨i + 1, A12, cap12, ms ++ [bAnd x8 16777215], by omega, by rw [msk24_step hx9, ← hms], hA12, own12, hk3, rfl⟩
  ·
   refine V_exit ?_
   refine X_exit_then ?_
   refine X_exit_then ?_
   refine X_exit_here ?_
   refine X_then ?_
   refine V_seq ?_
   refine V_region ?_
   refine OI_static 1 [(3, .slice A2 ms.length cap2), (29, .slice A2 ms.length cap2)] (by kernel_rfl) ?_
   have hie : i = min fs.length 10 := by omega
   have htk : fs.take i = fs.take 10 := by rw [hie]; rcases Nat.le_total fs.length 10 with h9 | h9; (rw [Nat.min_eq_left h9, List.take_length, List.take_of_length_le h9]); rw [Nat.min_eq_right h9]
   rw [htk] at hms
   have hok9 := msk24_ok (fs := fs.take 10) (by rw [List.length_take]; omega)
   rw [← hms] at hok9
   refine OI_call { callee := (Callee.value (Operand.func 29)), args := #[(Operand.tmp 29)], argTypes := #[28] } 29 #[.slice A2 ms.length cap2] (some 30) (by kernel_rfl) (by kernel_rfl) (by kernel_rfl) (new_ok A2 cap2 ms _ (SlT.arg hA2) (by omega) hok9) ?_
   rintro _ w15 ⟨l17, F18, rfl, ho19, hk16, hge20⟩
   refine ⟨_, rfl, ?_⟩
   have hsz21 := Keep.size hk16
   replace hA := ArgT.keep0 hA hk16
   replace hA2 := SlT.keep0 hA2 hk16
   replace hK0 := Keep.tr hK0 (Keep.ofNone hk16)
   have own22 : ∀ q, F18 q → w1.heap.size ≤ q := fun q hq => by have h1 := hge20 q hq; omega
   have lt23 := Led.lt ho19
   have dis24 : ∀ q, F18 q → ¬ inA A2 q := fun q h1 h2 => by have h3 := hge20 q h1; have h4 := lt2 q h2; omega
   have hl17lt : l17 < w15.heap.size := Led.lt ho19 _ (Led.at_ ho19)
   have hl17ge := hge20 _ (Led.at_ ho19)
   refine OI_static 7 [(3, .slice A2 ms.length cap2), (5, pt l17), (6, nt 0)] (by kernel_rfl) ?_
   refine OI_end rfl ?_
   refine X_then ?_
   refine V_seq ?_
   refine V_region ?_
   refine OI_static 1 [(5, pt l17), (6, nt 0), (34, .slice A2 ms.length cap2)] (by kernel_rfl) ?_
   refine OI_call { callee := (Callee.value (Operand.func 41)), args := #[(Operand.tmp 34)], argTypes := #[28] } 41 #[.slice A2 ms.length cap2] (some 35) (by kernel_rfl) (by kernel_rfl) (by kernel_rfl) (rnew6_weak A2 cap2 ms _ (SlT.arg hA2) (by omega)) ?_
   rintro _ w25 ⟨pv27, n28, rfl, hk26⟩
   refine ⟨_, rfl, ?_⟩
   have hsz29 := Keep.size hk26
   replace hA := ArgT.keep0 hA hk26
   replace hA2 := SlT.keep0 hA2 hk26
   replace hK0 := Keep.tr hK0 (Keep.ofNone hk26)
   replace ho19 := Led.keep ho19 hk26 (fun _ _ f => f)
   refine OI_static 7 [(5, pt l17), (6, nt 0), (7, .pointer pv27)] (by kernel_rfl) ?_
   refine OI_end rfl ?_
   refine X_then ?_
   refine V_seq ?_
   refine V_region ?_
   refine OI_static 1 [(5, pt l17), (6, nt 0), (7, .pointer pv27), (38, pt l17)] (by kernel_rfl) ?_
   refine OI_call { callee := (Callee.value (Operand.func 42)), args := #[], argTypes := #[] } 42 #[] (some 39) (by kernel_rfl) (by kernel_rfl) (by kernel_rfl) (new_votT _) ?_
   rintro _ w32 ⟨g34, F35, rfl, ho36, hk33, hge37⟩
   refine ⟨_, rfl, ?_⟩
   have hsz38 := Keep.size hk33
   replace hA := ArgT.keep0 hA hk33
   replace hA2 := SlT.keep0 hA2 hk33
   replace hK0 := Keep.tr hK0 (Keep.ofNone hk33)
   replace ho19 := Led.keep ho19 hk33 (fun _ _ f => f)
   have own39 : ∀ q, F35 q → w25.heap.size ≤ q := fun q hq => by have h1 := hge37 q hq; omega
   have lt40 := VotT.lt ho36
   have dis41 : ∀ q, F35 q → ¬ inA A2 q := fun q h1 h2 => by have h3 := hge37 q h1; have h4 := lt2 q h2; omega
   have dis42 : ∀ q, F35 q → ¬ F18 q := fun q h1 h2 => by have h3 := hge37 q h1; have h4 := lt23 q h2; omega
   have hg34lt : g34 < w32.heap.size := VotT.lt ho36 _ (VotT.at_ ho36)
   have hg34ge := hge37 _ (VotT.at_ ho36)
   refine OI_static 3 [(5, pt l17), (6, nt 0), (38, pt l17), (39, pt g34), (40, .pointer pv27)] (by kernel_rfl) ?_
   refine OI_call { callee := (Callee.value (Operand.func 43)), args := #[], argTypes := #[] } 43 #[] (some 41) (by kernel_rfl) (by kernel_rfl) (by kernel_rfl) (rnew11_weak _) ?_
   rintro _ w43 ⟨pv45, rfl, hk44⟩
   refine ⟨_, rfl, ?_⟩
   have hsz46 := Keep.size hk44
   replace hA := ArgT.keep0 hA hk44
   replace hA2 := SlT.keep0 hA2 hk44
   replace hK0 := Keep.tr hK0 (Keep.ofNone hk44)
   replace ho19 := Led.keep ho19 hk44 (fun _ _ f => f)
   replace ho36 := VotT.keep ho36 hk44 (fun _ _ f => f)
   refine OI_static 5 [(5, pt l17), (6, nt 0), (42, .agg #[pt l17, pt g34, .pointer pv27, .pointer pv45, nt 0])] (by kernel_rfl) ?_
   refine OI_box 35 (.tmp 42) (.agg #[pt l17, pt g34, .pointer pv27, .pointer pv45, nt 0]) [pt l17, pt g34, .pointer pv27, .pointer pv45, nt 0] (some 43) (by kernel_rfl) (by kernel_rfl) (by kernel_rfl) ?_
   intro b47 w47 e47 hb47 k47 z47
   have hsz48 := Keep.size k47
   replace hA := ArgT.keep0 hA k47
   replace hA2 := SlT.keep0 hA2 k47
   replace hK0 := Keep.tr hK0 (Keep.ofNone k47)
   replace ho19 := Led.keep ho19 k47 (fun _ _ f => f)
   replace ho36 := VotT.keep ho36 k47 (fun _ _ f => f)
   have hb47lt := hb47.lt
   refine OI_static 7 [(5, pt l17), (6, nt 0), (9, pt b47)] (by kernel_rfl) ?_
   refine OI_end rfl ?_
   refine X_then ?_
   refine V_seq ?_
   refine V_seq ?_
   refine V_region ?_
   refine OI_static 10 [(9, pt b47), (50, .bool false), (53, .pointer (some ⟨b47, 1, none⟩))] (by kernel_rfl) ?_
   refine OI_cell 31 (.tmp 53) 1 (pt g34) (some 54) (by kernel_rfl) (by kernel_rfl) hb47 (m := 1) (by kernel_rfl) rfl ?_
   refine OI_static 13 [(9, pt b47), (56, .bool false)] (by kernel_rfl) ?_
   refine OI_end rfl ?_
   refine X_then ?_
   refine V_false rfl ?_
   refine V_skip ?_
   refine X_then ?_
   refine V_seq ?_
   refine V_region ?_
   refine OI_static 2 [(2, pt b47)] (by kernel_rfl) ?_
   refine OI_end rfl ?_
   refine X_then ?_
   refine V_ret ?_
   exact X_return _ rfl ⟨b47, g34, l17, F35, F18, pv27, pv45, rfl, hb47, ho36, by rw [hms] at ho19; exact ho19, hK0, by omega, fun q hq => ⟨by have h1 := own39 q hq; omega, by have h1 := lt40 q hq; omega⟩, fun q hq => ⟨by have h1 := own22 q hq; omega, by have h1 := lt23 q hq; omega⟩, dis42⟩
 ·
  refine OI_eq [(0, .slice A fs.length cap), (3, .slice A2 ms.length cap2), (4, nt ((i : Nat) : Int)), (14, .bool false)] (by first | simp [hg5] | rfl) ?_
  refine OI_static 8 [(0, .slice A fs.length cap), (3, .slice A2 ms.length cap2), (4, nt ((i : Nat) : Int)), (15, undef), (16, undef), (17, .bool false)] (by kernel_rfl) ?_
  refine OI_end rfl ?_
  refine X_then ?_
  refine V_false rfl ?_
  refine V_exit ?_
  refine X_exit_then ?_
  refine X_exit_then ?_
  refine X_exit_here ?_
  refine X_then ?_
  refine V_seq ?_
  refine V_region ?_
  refine OI_static 1 [(3, .slice A2 ms.length cap2), (29, .slice A2 ms.length cap2)] (by kernel_rfl) ?_
  have hie : i = min fs.length 10 := by omega
  have htk : fs.take i = fs.take 10 := by rw [hie]; rcases Nat.le_total fs.length 10 with h9 | h9; (rw [Nat.min_eq_left h9, List.take_length, List.take_of_length_le h9]); rw [Nat.min_eq_right h9]
  rw [htk] at hms
  have hok9 := msk24_ok (fs := fs.take 10) (by rw [List.length_take]; omega)
  rw [← hms] at hok9
  refine OI_call { callee := (Callee.value (Operand.func 29)), args := #[(Operand.tmp 29)], argTypes := #[28] } 29 #[.slice A2 ms.length cap2] (some 30) (by kernel_rfl) (by kernel_rfl) (by kernel_rfl) (new_ok A2 cap2 ms _ (SlT.arg hA2) (by omega) hok9) ?_
  rintro _ w49 ⟨l51, F52, rfl, ho53, hk50, hge54⟩
  refine ⟨_, rfl, ?_⟩
  have hsz55 := Keep.size hk50
  replace hA := ArgT.keep0 hA hk50
  replace hA2 := SlT.keep0 hA2 hk50
  replace hK0 := Keep.tr hK0 (Keep.ofNone hk50)
  have own56 : ∀ q, F52 q → w1.heap.size ≤ q := fun q hq => by have h1 := hge54 q hq; omega
  have lt57 := Led.lt ho53
  have dis58 : ∀ q, F52 q → ¬ inA A2 q := fun q h1 h2 => by have h3 := hge54 q h1; have h4 := lt2 q h2; omega
  have hl51lt : l51 < w49.heap.size := Led.lt ho53 _ (Led.at_ ho53)
  have hl51ge := hge54 _ (Led.at_ ho53)
  refine OI_static 7 [(3, .slice A2 ms.length cap2), (5, pt l51), (6, nt 0)] (by kernel_rfl) ?_
  refine OI_end rfl ?_
  refine X_then ?_
  refine V_seq ?_
  refine V_region ?_
  refine OI_static 1 [(5, pt l51), (6, nt 0), (34, .slice A2 ms.length cap2)] (by kernel_rfl) ?_
  refine OI_call { callee := (Callee.value (Operand.func 41)), args := #[(Operand.tmp 34)], argTypes := #[28] } 41 #[.slice A2 ms.length cap2] (some 35) (by kernel_rfl) (by kernel_rfl) (by kernel_rfl) (rnew6_weak A2 cap2 ms _ (SlT.arg hA2) (by omega)) ?_
  rintro _ w59 ⟨pv61, n62, rfl, hk60⟩
  refine ⟨_, rfl, ?_⟩
  have hsz63 := Keep.size hk60
  replace hA := ArgT.keep0 hA hk60
  replace hA2 := SlT.keep0 hA2 hk60
  replace hK0 := Keep.tr hK0 (Keep.ofNone hk60)
  replace ho53 := Led.keep ho53 hk60 (fun _ _ f => f)
  refine OI_static 7 [(5, pt l51), (6, nt 0), (7, .pointer pv61)] (by kernel_rfl) ?_
  refine OI_end rfl ?_
  refine X_then ?_
  refine V_seq ?_
  refine V_region ?_
  refine OI_static 1 [(5, pt l51), (6, nt 0), (7, .pointer pv61), (38, pt l51)] (by kernel_rfl) ?_
  refine OI_call { callee := (Callee.value (Operand.func 42)), args := #[], argTypes := #[] } 42 #[] (some 39) (by kernel_rfl) (by kernel_rfl) (by kernel_rfl) (new_votT _) ?_
  rintro _ w66 ⟨g68, F69, rfl, ho70, hk67, hge71⟩
  refine ⟨_, rfl, ?_⟩
  have hsz72 := Keep.size hk67
  replace hA := ArgT.keep0 hA hk67
  replace hA2 := SlT.keep0 hA2 hk67
  replace hK0 := Keep.tr hK0 (Keep.ofNone hk67)
  replace ho53 := Led.keep ho53 hk67 (fun _ _ f => f)
  have own73 : ∀ q, F69 q → w59.heap.size ≤ q := fun q hq => by have h1 := hge71 q hq; omega
  have lt74 := VotT.lt ho70
  have dis75 : ∀ q, F69 q → ¬ inA A2 q := fun q h1 h2 => by have h3 := hge71 q h1; have h4 := lt2 q h2; omega
  have dis76 : ∀ q, F69 q → ¬ F52 q := fun q h1 h2 => by have h3 := hge71 q h1; have h4 := lt57 q h2; omega
  have hg68lt : g68 < w66.heap.size := VotT.lt ho70 _ (VotT.at_ ho70)
  have hg68ge := hge71 _ (VotT.at_ ho70)
  refine OI_static 3 [(5, pt l51), (6, nt 0), (38, pt l51), (39, pt g68), (40, .pointer pv61)] (by kernel_rfl) ?_
  refine OI_call { callee := (Callee.value (Operand.func 43)), args := #[], argTypes := #[] } 43 #[] (some 41) (by kernel_rfl) (by kernel_rfl) (by kernel_rfl) (rnew11_weak _) ?_
  rintro _ w77 ⟨pv79, rfl, hk78⟩
  refine ⟨_, rfl, ?_⟩
  have hsz80 := Keep.size hk78
  replace hA := ArgT.keep0 hA hk78
  replace hA2 := SlT.keep0 hA2 hk78
  replace hK0 := Keep.tr hK0 (Keep.ofNone hk78)
  replace ho53 := Led.keep ho53 hk78 (fun _ _ f => f)
  replace ho70 := VotT.keep ho70 hk78 (fun _ _ f => f)
  refine OI_static 5 [(5, pt l51), (6, nt 0), (42, .agg #[pt l51, pt g68, .pointer pv61, .pointer pv79, nt 0])] (by kernel_rfl) ?_
  refine OI_box 35 (.tmp 42) (.agg #[pt l51, pt g68, .pointer pv61, .pointer pv79, nt 0]) [pt l51, pt g68, .pointer pv61, .pointer pv79, nt 0] (some 43) (by kernel_rfl) (by kernel_rfl) (by kernel_rfl) ?_
  intro b81 w81 e81 hb81 k81 z81
  have hsz82 := Keep.size k81
  replace hA := ArgT.keep0 hA k81
  replace hA2 := SlT.keep0 hA2 k81
  replace hK0 := Keep.tr hK0 (Keep.ofNone k81)
  replace ho53 := Led.keep ho53 k81 (fun _ _ f => f)
  replace ho70 := VotT.keep ho70 k81 (fun _ _ f => f)
  have hb81lt := hb81.lt
  refine OI_static 7 [(5, pt l51), (6, nt 0), (9, pt b81)] (by kernel_rfl) ?_
  refine OI_end rfl ?_
  refine X_then ?_
  refine V_seq ?_
  refine V_seq ?_
  refine V_region ?_
  refine OI_static 10 [(9, pt b81), (50, .bool false), (53, .pointer (some ⟨b81, 1, none⟩))] (by kernel_rfl) ?_
  refine OI_cell 31 (.tmp 53) 1 (pt g68) (some 54) (by kernel_rfl) (by kernel_rfl) hb81 (m := 1) (by kernel_rfl) rfl ?_
  refine OI_static 13 [(9, pt b81), (56, .bool false)] (by kernel_rfl) ?_
  refine OI_end rfl ?_
  refine X_then ?_
  refine V_false rfl ?_
  refine V_skip ?_
  refine X_then ?_
  refine V_seq ?_
  refine V_region ?_
  refine OI_static 2 [(2, pt b81)] (by kernel_rfl) ?_
  refine OI_end rfl ?_
  refine X_then ?_
  refine V_ret ?_
  exact X_return _ rfl ⟨b81, g68, l51, F69, F52, pv61, pv79, rfl, hb81, ho70, by rw [hms] at ho53; exact ho53, hK0, by omega, fun q hq => ⟨by have h1 := own73 q hq; omega, by have h1 := lt74 q hq; omega⟩, fun q hq => ⟨by have h1 := own56 q hq; omega, by have h1 := lt57 q hq; omega⟩, dis76⟩
end Go.Al


namespace Go.Al
open Go Go.RowKit Go.Proofs
/-! ### Locks, by accounts and ids -/
theorem mem_getC {cs : List Ci} : Srt cs → ∀ c ∈ cs, getC c.a c.b cs = some c.v := by
  induction cs with
  | nil => intro _ c hc; cases hc
  | cons x l ih =>
    intro hs c hc
    have hs2 := List.pairwise_cons.1 hs
    simp only [getC]
    rcases List.mem_cons.1 hc with rfl | hc
    · rw [if_pos ⟨rfl, rfl⟩]
    · rw [if_neg (fun h => by have := hs2.1 c hc; unfold ltC at this; omega)]
      exact ih hs2.2 c hc
theorem getC_mem {a b v : Int} : ∀ {cs : List Ci}, getC a b cs = some v → ⟨a, b, v⟩ ∈ cs
  | [], h => by cases h
  | x :: l, h => by
    simp only [getC] at h
    split at h
    · rename_i he
      cases h
      obtain ⟨x1, x2, x3⟩ := x
      simp only at he
      rw [he.1, he.2]; exact List.mem_cons_self ..
    · exact List.mem_cons_of_mem _ (getC_mem h)
theorem getC_set (a b x : Int) : ∀ (cs : List Ci), Srt cs → ∀ a' b', getC a' b' (setC a b x cs) = if a' = a ∧ b' = b then some x else getC a' b' cs
  | [], _, a', b' => by
    simp only [setC, getC]
    by_cases h : a' = a ∧ b' = b
    · rw [if_pos ⟨h.1.symm, h.2.symm⟩, if_pos h]
    · rw [if_neg (fun e => h ⟨e.1.symm, e.2.symm⟩), if_neg h]
  | c :: l, hs, a', b' => by
    have hs2 := List.pairwise_cons.1 hs
    have ih := getC_set a b x l hs2.2 a' b'
    simp only [setC]
    split
    · rename_i he
      simp only [getC]
      by_cases h : a' = a ∧ b' = b
      · rw [if_pos ⟨h.1.symm, h.2.symm⟩, if_pos h]
      · rw [if_neg (fun e => h ⟨e.1.symm, e.2.symm⟩), if_neg h, if_neg (fun e => h ⟨by omega, by omega⟩)]
    · rename_i he
      split
      · simp only [getC]
        rw [ih]
        by_cases h : a' = a ∧ b' = b
        · rw [if_pos h, if_pos h, if_neg (fun e => he ⟨by omega, by omega⟩)]
        · rw [if_neg h, if_neg h]
      · simp only [getC]
        by_cases h : a' = a ∧ b' = b
        · rw [if_pos ⟨h.1.symm, h.2.symm⟩, if_pos h]
        · rw [if_neg (fun e => h ⟨e.1.symm, e.2.symm⟩), if_neg h]
theorem getC_gt {a b : Int} {cs : List Ci} (h : ∀ y ∈ cs, ltC a b y.a y.b) : getC a b cs = none := (none_later h).1
theorem getC_del (a b : Int) : ∀ (cs : List Ci), Srt cs → ∀ a' b', getC a' b' (delC a b cs) = if a' = a ∧ b' = b then none else getC a' b' cs
  | [], _, a', b' => by simp only [delC, getC]; split <;> rfl
  | c :: l, hs, a', b' => by
    have hs2 := List.pairwise_cons.1 hs
    have ih := getC_del a b l hs2.2 a' b'
    simp only [delC]
    split
    · rename_i he
      by_cases h : a' = a ∧ b' = b
      · rw [if_pos h]
        exact getC_gt (fun y hy => by have := hs2.1 y hy; rw [h.1, h.2, ← he.1, ← he.2]; exact this)
      · rw [if_neg h]; simp only [getC]
        rw [if_neg (fun e => h ⟨by omega, by omega⟩)]
    · rename_i he
      simp only [getC]
      rw [ih]
      by_cases h : a' = a ∧ b' = b
      · rw [if_pos h, if_pos h, if_neg (fun e => he ⟨by omega, by omega⟩)]
      · rw [if_neg h, if_neg h]
def LkOk (cs : List Ci) : Prop := Srt cs ∧ ∀ c ∈ cs, 0 < c.v ∧ c.v ≤ 1073741824
def lkv (cs : List Ci) (a t : Int) : Int := (getC a t cs).getD 0
theorem lockM_le : ∀ (l : List (Int × Int)) (m b : Int), lockM l m ≤ b ↔ m ≤ b ∧ ∀ q ∈ l, q.2 ≤ b
  | [], m, b => by simp [lockM]
  | q :: l, m, b => by
    simp only [lockM]
    rw [lockM_le l _ b]
    simp only [List.mem_cons, forall_eq_or_imp]
    split <;> constructor <;> rintro ⟨h1, h2⟩
    · exact ⟨by omega, h1, h2⟩
    · exact ⟨h2.1, h2.2⟩
    · exact ⟨h1, by omega, h2⟩
    · exact ⟨h1, h2.2⟩
theorem lockedL_le (cs : List Ci) (a b : Int) : lockedL cs a ≤ b ↔ 0 ≤ b ∧ ∀ c ∈ cs, c.a = a → c.v ≤ b := by
  unfold lockedL rowL
  rw [lockM_le]
  constructor
  · rintro ⟨h1, h2⟩
    exact ⟨h1, fun c hc ha => h2 (c.b, c.v) (List.mem_map.2 ⟨c, List.mem_filter.2 ⟨hc, by simp [ha]⟩, rfl⟩)⟩
  · rintro ⟨h1, h2⟩
    refine ⟨h1, fun q hq => ?_⟩
    obtain ⟨c, hc, rfl⟩ := List.mem_map.1 hq
    obtain ⟨h3, h4⟩ := List.mem_filter.1 hc
    exact h2 c h3 (by simpa using h4)
theorem lockedL_lkv {cs : List Ci} (h : LkOk cs) (a b : Int) : lockedL cs a ≤ b ↔ 0 ≤ b ∧ ∀ t, lkv cs a t ≤ b := by
  rw [lockedL_le]
  constructor
  · rintro ⟨h1, h2⟩
    refine ⟨h1, fun t => ?_⟩
    unfold lkv
    cases hg : getC a t cs with
    | none => exact h1
    | some v => exact h2 _ (getC_mem hg) rfl
  · rintro ⟨h1, h2⟩
    refine ⟨h1, fun c hc ha => ?_⟩
    have := h2 c.b
    unfold lkv at this
    rw [← ha, mem_getC h.1 c hc] at this
    exact this
theorem lkv_bnd {cs : List Ci} (h : LkOk cs) (a t : Int) : 0 ≤ lkv cs a t ∧ lkv cs a t ≤ 1073741824 := by
  unfold lkv
  cases hg : getC a t cs with
  | none => exact ⟨Int.le_refl _, by decide⟩
  | some v => have := h.2 _ (getC_mem hg); exact ⟨by show 0 ≤ v; simp only at this; omega, by show v ≤ _; simp only at this; omega⟩
theorem LkOk.nil : LkOk [] := ⟨Srt.nil, fun c hc => by cases hc⟩
theorem setC_mem3 {a b v : Int} {y : Ci} : ∀ {cs : List Ci}, y ∈ setC a b v cs → y = ⟨a, b, v⟩ ∨ y ∈ cs
  | [], h => by simp only [setC, List.mem_singleton] at h; exact .inl h
  | x :: l, h => by
    simp only [setC] at h
    split at h
    · rcases List.mem_cons.1 h with h | h
      · exact .inl h
      · exact .inr (List.mem_cons_of_mem _ h)
    · split at h
      · rcases List.mem_cons.1 h with rfl | h
        · exact .inr (List.mem_cons_self ..)
        · exact (setC_mem3 h).imp id (List.mem_cons_of_mem _)
      · rcases List.mem_cons.1 h with h | h
        · exact .inl h
        · exact .inr h
theorem delC_mem3 {a b : Int} {y : Ci} : ∀ {cs : List Ci}, y ∈ delC a b cs → y ∈ cs
  | [], h => by simp [delC] at h
  | x :: l, h => by
    simp only [delC] at h
    split at h
    · exact List.mem_cons_of_mem _ h
    · rcases List.mem_cons.1 h with rfl | h
      · exact List.mem_cons_self ..
      · exact List.mem_cons_of_mem _ (delC_mem3 h)
theorem LkOk.lock {cs : List Ci} (h : LkOk cs) (a t n : Int) : LkOk (lockC cs a t n) := by
  unfold lockC
  split
  · split
    · exact ⟨(h.1.del a t).1, fun c hc => h.2 c (delC_mem3 hc)⟩
    · refine ⟨(Srt.set h.1).1, fun c hc => ?_⟩
      rcases setC_mem3 hc with rfl | hc
      · simp only; omega
      · exact h.2 c hc
  · exact h
theorem lkv_lock {cs : List Ci} (h : LkOk cs) {a : Int} (ha : isA a = true) (t n a' t' : Int) : lkv (lockC cs a t n) a' t' = if a' = a ∧ t' = t then (if n ≤ 0 ∨ n > 1073741824 then 0 else n) else lkv cs a' t' := by
  unfold lkv lockC
  rw [if_pos ha]
  split
  · rw [getC_del a t cs h.1]; split <;> rfl
  · rw [getC_set a t n cs h.1]; split <;> rfl
theorem hasAt_iff {cs : List Ci} (h : LkOk cs) {a t n : Int} : hasAt t n (rowL a cs) = true ↔ ∃ v, getC a t cs = some v ∧ n ≤ v := by
  unfold hasAt rowL
  rw [List.any_eq_true]
  constructor
  · rintro ⟨x, hx, h2⟩
    obtain ⟨c, hc, rfl⟩ := List.mem_map.1 hx
    obtain ⟨h3, h4⟩ := List.mem_filter.1 hc
    simp only [Bool.and_eq_true, decide_eq_true_eq] at h2
    have h5 : c.a = a := by simpa using h4
    exact ⟨c.v, by rw [← h5, ← h2.1]; exact mem_getC h.1 c h3, h2.2⟩
  · rintro ⟨v, hv, hn⟩
    exact ⟨(t, v), List.mem_map.2 ⟨⟨a, t, v⟩, List.mem_filter.2 ⟨getC_mem hv, by simp⟩, rfl⟩, by simp [hn]⟩
theorem LkOk.raise {cs : List Ci} (h : LkOk cs) (a t n : Int) : LkOk (raiseC cs a t n) := by
  unfold raiseC
  split
  · exact h
  · exact h.lock _ _ _
theorem lkv_raise {cs : List Ci} (h : LkOk cs) {a : Int} (ha : isA a = true) {n : Int} (hn : 0 ≤ n) (hn2 : n ≤ 1073741824) (t a' t' : Int) : lkv (raiseC cs a t n) a' t' = if a' = a ∧ t' = t then imax (lkv cs a t) n else lkv cs a' t' := by
  unfold raiseC
  by_cases hh : hasAt t n (rowL a cs) = true
  · rw [if_pos hh]
    obtain ⟨v, hv, h2⟩ := (hasAt_iff h).1 hh
    split
    · rename_i he
      rw [he.1, he.2]; unfold lkv imax; rw [hv]
      show v = if n > v then n else v
      rw [if_neg (by omega)]
    · rfl
  · rw [if_neg hh, lkv_lock h ha]
    split
    · have hlt : lkv cs a t < n ∨ (lkv cs a t = 0 ∧ n = 0) := by
        unfold lkv
        cases hg : getC a t cs with
        | none => show (0 : Int) < n ∨ (0 : Int) = 0 ∧ n = 0; omega
        | some v =>
          left
          show v < n
          rcases Int.lt_or_le v n with h9 | h9
          · exact h9
          · exact absurd ((hasAt_iff h).2 ⟨v, hg, h9⟩) hh
      have hb := lkv_bnd h a t
      unfold imax
      split
      · split <;> omega
      · rw [if_pos (by omega)]
    · rfl
theorem imax_le (a b c : Int) : imax a b ≤ c ↔ a ≤ c ∧ b ≤ c := by unfold imax; split <;> omega
theorem eq_of_le {a b : Int} (h : ∀ c, a ≤ c ↔ b ≤ c) : a = b := by have h1 := (h a).1 (Int.le_refl _); have h2 := (h b).2 (Int.le_refl _); omega
theorem locked_raise {cs : List Ci} (h : LkOk cs) {a : Int} (ha : isA a = true) {n : Int} (hn : 0 ≤ n) (hn2 : n ≤ 1073741824) (t : Int) : lockedL (raiseC cs a t n) a = imax (lockedL cs a) n := by
  refine eq_of_le fun c => ?_
  rw [lockedL_lkv (h.raise a t n), imax_le, lockedL_lkv h]
  constructor
  · rintro ⟨h1, h2⟩
    have h3 := h2 t
    rw [lkv_raise h ha hn hn2, if_pos ⟨rfl, rfl⟩, imax_le] at h3
    refine ⟨⟨h1, fun t' => ?_⟩, h3.2⟩
    by_cases ht : t' = t
    · rw [ht]; exact h3.1
    · have := h2 t'; rw [lkv_raise h ha hn hn2, if_neg (fun e => ht e.2)] at this; exact this
  · rintro ⟨⟨h1, h2⟩, h3⟩
    refine ⟨h1, fun t' => ?_⟩
    rw [lkv_raise h ha hn hn2]
    split
    · rw [imax_le]; exact ⟨h2 t, h3⟩
    · exact h2 t'
theorem locked_other {cs : List Ci} (h : LkOk cs) {a b : Int} (ha : isA a = true) {n : Int} (hn : 0 ≤ n) (hn2 : n ≤ 1073741824) (t : Int) (hab : b ≠ a) : lockedL (raiseC cs a t n) b = lockedL cs b := by
  refine eq_of_le fun c => ?_
  rw [lockedL_lkv (h.raise a t n), lockedL_lkv h]
  have : ∀ t', lkv (raiseC cs a t n) b t' = lkv cs b t' := fun t' => by rw [lkv_raise h ha hn hn2, if_neg (fun e => hab e.1)]
  simp only [this]
theorem locked0 (a : Int) : lockedL [] a = 0 := rfl
theorem setC_len (a b v : Int) : ∀ cs : List Ci, (setC a b v cs).length ≤ cs.length + 1
  | [] => by simp [setC]
  | x :: l => by
    have := setC_len a b v l
    simp only [setC]
    split
    · simp
    · split
      · simp only [List.length_cons]; omega
      · simp
theorem delC_len (a b : Int) : ∀ cs : List Ci, (delC a b cs).length ≤ cs.length
  | [] => by simp [delC]
  | x :: l => by
    have := delC_len a b l
    simp only [delC]
    split <;> simp <;> omega
theorem lockC_len (cs : List Ci) (a i n : Int) : (lockC cs a i n).length ≤ cs.length + 1 := by
  unfold lockC
  split
  · split
    · have := delC_len a i cs; omega
    · exact setC_len _ _ _ _
  · omega
theorem raiseC_len (cs : List Ci) (a i n : Int) : (raiseC cs a i n).length ≤ cs.length + 1 := by
  unfold raiseC
  split
  · omega
  · exact lockC_len _ _ _ _
/-! ### What succeeds -/
theorem vote_go {xs : List Acc} {s : VS} {who ref : Int} {x : Vt} {q : PollS} (h1 : 0 ≤ who ∧ who ≤ 9) (h2 : okV x) (h3 : pollAt s ref = some q) (h4 : q.state = 0) (h5 : (s.rc who q.track).d = none) (h6 : capI x ≤ (acct xs who).free) (h7 : (GV.getC who ref s.cs).isSome = true ∨ (vrow s who q.track).length < 6) :
    voteE xs s who ref x = 0 ∧ voteS xs s who ref x = { s.setP ref.toNat { q with t := voteT s who ref x q } with cs := GV.setC who ref x s.cs } ∧ ∀ cs, voteC xs cs s who ref x = raiseC cs who q.track (capI x) := by
  have hE : voteE xs s who ref x = 0 := by
    unfold voteE
    rw [if_neg (by rintro (h9 | h9); exact h9 h1; exact h9 h2), h3]; dsimp only
    rw [if_neg (fun h9 => h9 h4), if_neg (by rw [h5]; decide), if_neg (by omega), if_neg ?_]
    rintro ⟨h8, h9⟩
    rcases h7 with h7 | h7
    · rw [h7] at h8; cases h8
    · omega
  refine ⟨hE, ?_, fun cs => ?_⟩
  · unfold voteS; rw [if_pos hE, h3]
  · unfold voteC; rw [if_pos hE, h3]
theorem del_go {xs : List Acc} {s : VS} {who t to level n : Int} (h1 : 0 ≤ who ∧ who ≤ 9) (h2 : 0 ≤ to ∧ to ≤ 9) (h3 : 0 ≤ t ∧ t ≤ 3) (h4 : 0 ≤ level ∧ level ≤ 6) (h5 : 0 ≤ n ∧ n ≤ 1073741824) (h6 : who ≠ to) (h7 : (s.rc who t).d = none) (h8 : vrow s who t = []) (h9 : n ≤ (acct xs who).free) :
    delE xs s who t to level n = 0 ∧ delS xs s who t to level n = getsS (s.setR who t { s.rc who t with d := some (DelS.mk to level n) }) to t (Wgt.mk (cvVotes n level) n) ∧ ∀ cs, delC2 xs cs s who t to level n = raiseC cs who t n := by
  have hE : delE xs s who t to level n = 0 := by
    unfold delE
    rw [if_neg (by rintro (h | h | h | h | h | h); exact h h1; exact h h2; exact h h3; exact h h4; exact h h5; exact h h6), if_neg (by rw [h7]; decide), if_neg (by rw [h8]; decide), if_neg (by omega)]
  refine ⟨hE, ?_, fun cs => ?_⟩
  · unfold delS; rw [if_pos hE]
  · unfold delC2; rw [if_pos hE]
theorem w64_id {x : Int} (h1 : -9223372036854775808 ≤ x) (h2 : x ≤ 9223372036854775807) : w64 x = x := wrap64_id (by omega) (by omega)
theorem capI_ok {x : Vt} (h : okV x) : capI x = x.a + x.n + x.s ∧ 0 ≤ capI x ∧ capI x ≤ 1073741824 := by
  have hb := h.1
  have e : capI x = x.a + x.n + x.s := by unfold capI; rw [w64_id (x := x.a + x.n) (by omega) (by omega), w64_id (by omega) (by omega)]
  rw [e]; omega
theorem rowL12 {F : Nat → Prop} {w : World} {v : Nat} {s : VS} (h : VotT F w v s) (a t : Int) : (vrow s a t).length ≤ 12 := by
  obtain ⟨⟨P, F1, F2, M, hX, _⟩, _⟩ := h
  have hs := hX.gv.1
  unfold vrow
  refine Nat.le_trans (List.length_filter_le _ _) ?_
  unfold GV.rowL
  have h1 : ((s.cs.filter (fun c => c.a == a)).map (fun c => c.b)).length ≤ 12 := sorted_len (by
    rw [List.pairwise_map]
    refine List.Pairwise.imp_of_mem ?_ (List.Pairwise.filter _ hs)
    intro x y hx hy hxy
    have e1 : x.a = a := by have := (List.mem_filter.1 hx).2; simpa using this
    have e2 : y.a = a := by have := (List.mem_filter.1 hy).2; simpa using this
    rcases hxy with h | h <;> omega) (by
    intro z hz
    obtain ⟨c, hc, rfl⟩ := List.mem_map.1 hz
    exact (hX.inv.votes c (List.mem_filter.1 hc).1).2.1)
  simpa using h1
theorem casts_spec (F : Nat → Prop) (v : Nat) (s : VS) (a t : Int) (w : World) (h : VotT F w v s) : Calls Tryz.prog 19 #[.pointer (some ⟨v, 0, none⟩), .int .i64 a, .int .i64 t] w fun e w' => ∃ Ak capk, e = .returned (.tuple #[.slice Ak (vrow s a t).length capk, .bool true]) ∧ SlT w' 7 castc Ak capk (vrow s a t) ∧ Keep none_ w w' ∧ (∀ q, inA Ak q → w.heap.size ≤ q) := by
  have hl := rowL12 h a t
  obtain ⟨⟨P, hP⟩, _⟩ := h
  exact casts_at F v P s a t w hP (by omega)
end Go.Al


namespace Go.Al
open Go Go.RowKit Go.Proofs
/-! ### What is lent counts -/
def knX : List Acc := newX [0, 10, 10] 10
def knV : Vt := ⟨1, true, 2, 10, 0, 0⟩
def knS1 : VS := openS VS.zero 0 1
def knS2 : VS := delS knX knS1 2 1 1 1 10
def knC2 : List Ci := delC2 knX [] knS1 2 1 1 1 10
def knS3 : VS := voteS knX knS2 1 0 knV
def knC3 : List Ci := voteC knX knC2 knS2 1 0 knV
theorem kn1 : openE VS.zero 0 1 = 0 := by kernel_rfl
theorem kn2 : delE knX knS1 2 1 1 1 10 = 0 := by kernel_rfl
theorem kn3 : voteE knX knS2 1 0 knV = 0 := by kernel_rfl
theorem kn4 : tallyT knS3 0 = ⟨30, 0, 20⟩ := by kernel_rfl
theorem kn0 : newX (msk24 ([0, 10, 10].take 10)) 10 = knX := by kernel_rfl
theorem kn5 : knC2.length < 100000 := by rw [show knC2.length = 1 by kernel_rfl]; decide

set_option maxRecDepth 10000 in
theorem known_spec (w : World) : Calls Tryz.prog 22 #[] w fun e w' => e = .returned (.bool true) ∧ Keep none_ w w' := by
 have hK0 : Keep none_ w w := Keep.refl _ _
 have hzhK0 := Keep.size hK0
 refine enterV Tryz.func22 rfl [] 48 rfl rfl rfl ?_
 refine V_pick [] rfl ?_
 refine V_seq ?_
 refine V_region ?_
 refine OI_static 1 [] (by kernel_rfl) ?_
 refine OI_end rfl ?_
 refine X_then ?_
 refine V_seq ?_
 refine V_region ?_
 refine OI_slit (E := 3) (zv := nt 0) (sz := 1) (by_ := 8) 28 3 #[(0, (Operand.const (Value.int IntKind.i64 0))), (1, (Operand.const (Value.int IntKind.i64 10))), (2, (Operand.const (Value.int IntKind.i64 10)))] [nt 0, nt 10, nt 10] [nt 0, nt 10, nt 10] (some 5) (by kernel_rfl) (by kernel_rfl) (by kernel_rfl) (by omega) rfl (by omega) (by intro v hv; simp only [List.mem_cons, List.not_mem_nil, or_false] at hv; rcases hv with rfl | rfl | rfl <;> rfl) (by kernel_rfl) rfl ?_
 intro b1 w1 e1 hb1 k1 z1
 have hsz2 := Keep.size k1
 replace hK0 := Keep.tr hK0 (Keep.ofNone k1)
 have hb1lt := hb1.lt
 refine OI_call { callee := (Callee.value (Operand.func 15)), args := #[(Operand.tmp 5)], argTypes := #[28] } 15 #[.slice (some ⟨b1, 0, none⟩) 3 3] (some 6) (by kernel_rfl) (by kernel_rfl) (by kernel_rfl) (begin_weak (some ⟨b1, 0, none⟩) 3 [0, 10, 10] _ (slt_blk (xs := [0, 10, 10]) (f := intc) hb1 (fun _ => rfl) rfl).arg (by simp)) ?_
 rintro _ w5 ⟨b7, v8, l9, F10, G11, xv12, yv13, rfl, hb14, ho15, hl16, hk6, hge17, hF18, hG19, hd20⟩
 refine ⟨_, rfl, ?_⟩
 have hsz21 := Keep.size hk6
 replace hb1 := hb1.keep hk6 (fun f => f)
 replace hK0 := Keep.tr hK0 (Keep.ofNone hk6)
 have hb7lt := hb14.lt
 have own22 : ∀ q, F10 q → w1.heap.size ≤ q ∧ q ≠ b1 ∧ q ≠ b7 := fun q hq => by have h1 := hF18 q hq; omega
 have lt23 := VotT.lt ho15
 have hb7lt := hb14.lt
 have own24 : ∀ q, G11 q → w1.heap.size ≤ q ∧ q ≠ b1 ∧ q ≠ b7 := fun q hq => by have h1 := hG19 q hq; omega
 have lt25 := Led.lt hl16
 replace hl16 : Led G11 w5 l9 knX ([] : List Ci) := by rw [kn0] at hl16; exact hl16
 refine OI_static 3 [(1, pt b7)] (by kernel_rfl) ?_
 refine OI_end rfl ?_
 refine X_then ?_
 refine V_seq ?_
 refine V_seq ?_
 refine V_region ?_
 refine OI_static 2 [(1, pt b7), (8, .bool false)] (by kernel_rfl) ?_
 refine OI_end rfl ?_
 refine X_then ?_
 refine V_false rfl ?_
 refine V_skip ?_
 refine X_then ?_
 refine V_seq ?_
 refine V_region ?_
 refine OI_static 3 [(1, pt b7), (11, .pointer (some ⟨b7, 1, none⟩))] (by kernel_rfl) ?_
 refine OI_cell 31 (.tmp 11) 1 (pt v8) (some 12) (by kernel_rfl) (by kernel_rfl) hb14 (m := 1) (by kernel_rfl) rfl ?_
 refine OI_call { callee := (Callee.value (Operand.func 16)), args := #[(Operand.tmp 12), (Operand.const (Value.int IntKind.i64 0)), (Operand.const (Value.int IntKind.i64 1))], argTypes := #[31, 3, 3] } 16 #[pt v8, nt 0, nt 1] (some 13) (by kernel_rfl) (by kernel_rfl) (by kernel_rfl) (open_specT F10 v8 VS.zero 0 1 _ ho15) ?_
 rintro _ w28 ⟨rfl, ⟨F30, ho31, hfr32⟩, hk29⟩
 refine ⟨_, rfl, ?_⟩
 have hsz33 := Keep.size hk29
 replace hb14 := hb14.keep hk29 (fun hs => by have h1 := own22 _ hs; have h2 := lt23 _ hs; omega)
 replace hK0 := Keep.fresh hK0 hk29 (by intro i hi hs; first | exact hs | (exfalso; have h1 := own22 i hs; have h2 := lt23 i hs; omega) | (have h1 := own22 i hs; have h2 := lt23 i hs; show _ ∨ _; omega))
 replace hl16 := Led.keep hl16 hk29 (fun q hq hs => hd20 q hs hq)
 have own35 : ∀ q, F30 q → w1.heap.size ≤ q ∧ q ≠ b7 := fun q hq => by rcases hfr32 q hq with h | h; (have h1 := own22 q h; have h2 := lt23 q h; omega); omega
 have lt34 := VotT.lt ho31
 have dis36 : ∀ q, F30 q → ¬ G11 q := fun q h1 h2 => by rcases hfr32 q h1 with h | h; exact hd20 q h h2; (have h4 := lt25 q h2; omega)
 replace ho31 : VotT F30 w28 v8 knS1 := by rw [show openS VS.zero 0 1 = knS1 from rfl] at ho31; exact ho31
 refine OI_pick [(1, pt b7), (13, nt (openE VS.zero 0 1))] (by kernel_rfl) ?_
 refine OI_eq [(1, pt b7), (13, nt 0)] (by rw [kn1]) ?_
 refine OI_static 6 [(1, pt b7), (2, nt 0)] (by kernel_rfl) ?_
 refine OI_end rfl ?_
 refine X_then ?_
 refine V_seq ?_
 refine V_draws (acts [8]) none_ [[0, 1, 2, 3, 4, 5, 6, 7, 8, 9]] (by kernel_rfl) (by repeat first | exact sure_body (by rintro _ _ ⟨h, _⟩; exact ⟨_, h⟩) | refine sure_then ?_ | refine sure_block ?_ | refine sure_join ?_) (by kernel_rfl) ?_
 intro w38 hk37 he39 L hL40
 have hsz41 := Keep.size hk37
 replace hb14 := hb14.keep hk37 (fun f => f)
 replace hK0 := Keep.tr hK0 (Keep.ofNone hk37)
 replace hl16 := Led.keep hl16 hk37 (fun _ _ f => f)
 replace ho31 := VotT.keep ho31 hk37 (fun _ _ f => f)
 have qhb14 := hb14
 have K42 : Keep none_ w38 w38 := Keep.refl _ _
 obtain rfl := List.mem_singleton.1 hL40
 refine GI_static [3, 4, 5, 6, 7, 8, 9] [(1, pt b7), (2, nt 0), (16, .pointer (some ⟨b7, 1, none⟩))] (by kernel_rfl) ?_
 refine GI_cell 31 (.tmp 16) 1 (pt v8) (some 17) (by kernel_rfl) (by kernel_rfl) (by kernel_rfl) qhb14 (fun f => f) (m := 1) (by kernel_rfl) rfl ?_
 refine GI_static [7, 8, 9] [(1, pt b7), (2, nt 0), (17, pt v8), (20, pt b7)] (by kernel_rfl) ?_
 refine GI_cell 30 (.tmp 20) 0 (pt l9) (some 21) (by kernel_rfl) (by kernel_rfl) (by kernel_rfl) qhb14 (fun f => f) (m := 1) (by kernel_rfl) rfl ?_
 refine GI_call0 { callee := (Callee.value (Operand.func 17)), args := #[(Operand.tmp 17), (Operand.tmp 21), (Operand.const (Value.int IntKind.i64 2)), (Operand.const (Value.int IntKind.i64 1)), (Operand.const (Value.int IntKind.i64 1)), (Operand.const (Value.int IntKind.i64 1)), (Operand.const (Value.int IntKind.i64 10))], argTypes := #[31, 30, 3, 3, 3, 3, 3] } 17 #[pt v8, pt l9, nt 2, nt 1, nt 1, nt 1, nt 10] (some 22) (by kernel_rfl) (by kernel_rfl) (by kernel_rfl) (by kernel_rfl) (by kernel_rfl) (delegate_spec F30 G11 v8 l9 knS1 knX ([] : List Ci) 2 1 1 1 10 _ ho31 hl16 dis36 (by first | decide | exact kn5)) ?_
 rintro _ w45 ⟨rfl, ⟨F47, F50, ho48, ho51, hfr49, hfr52, hdis53⟩, hk46⟩
 refine ⟨_, rfl, ?_⟩
 have hsz54 := Keep.size hk46
 replace hb14 := hb14.keep hk46 (fun hs => by rcases hs with hs | hs; (have u0 := own35 _ hs; have u1 := lt34 _ hs; omega); (have u0 := own24 _ hs; have u1 := lt25 _ hs; omega))
 replace hK0 := Keep.fresh hK0 hk46 (by intro i hi hs; first | exact hs | (rcases hs with hs | hs; (have u0 := own35 i hs; have u1 := lt34 i hs; omega); (have u0 := own24 i hs; have u1 := lt25 i hs; omega)))
 have own56 : ∀ q, F47 q → w1.heap.size ≤ q ∧ q ≠ b7 := fun q hq => by rcases hfr49 q hq with h | h; (have h1 := own35 q h; have h2 := lt34 q h; omega); omega
 have lt55 := VotT.lt ho48
 have own58 : ∀ q, F50 q → w1.heap.size ≤ q ∧ q ≠ b7 := fun q hq => by rcases hfr52 q hq with h | h; (have h1 := own24 q h; have h2 := lt25 q h; omega); omega
 have lt57 := Led.lt ho51
 replace ho48 : VotT F47 w45 v8 knS2 := by rw [show delS knX knS1 2 1 1 1 10 = knS2 from rfl] at ho48; exact ho48
 replace ho51 : Led F50 w45 l9 knX knC2 := by rw [show delC2 knX ([] : List Ci) knS1 2 1 1 1 10 = knC2 from rfl] at ho51; exact ho51
 refine GI_pick [(1, pt b7), (2, nt 0), (22, nt (delE knX knS1 2 1 1 1 10))] (by kernel_rfl) ?_
 refine GI_eq [(1, pt b7), (2, nt 0), (22, nt 0)] (by rw [kn2]) ?_
 refine GI_static [] [(1, pt b7), (2, nt 0), (3, nt 0)] (by kernel_rfl) ?_
 refine GI_end ?_
 refine X_then ?_
 refine V_seq ?_
 refine V_draws (acts [9]) none_ [[0, 1, 2, 3, 4, 5, 6, 7, 8, 9, 10]] (by kernel_rfl) (by repeat first | exact sure_body (by rintro _ _ ⟨h, _⟩; exact ⟨_, h⟩) | refine sure_then ?_ | refine sure_block ?_ | refine sure_join ?_) (by kernel_rfl) ?_
 intro w60 hk59 he61 L hL62
 have hsz63 := Keep.size hk59
 replace hb14 := hb14.keep hk59 (fun f => f)
 replace hK0 := Keep.tr hK0 (Keep.ofNone hk59)
 replace ho48 := VotT.keep ho48 hk59 (fun _ _ f => f)
 replace ho51 := Led.keep ho51 hk59 (fun _ _ f => f)
 have qhb14 := hb14
 have K64 : Keep none_ w60 w60 := Keep.refl _ _
 obtain rfl := List.mem_singleton.1 hL62
 refine GI_static [3, 4, 5, 6, 7, 8, 9, 10] [(1, pt b7), (2, nt 0), (3, nt 0), (25, .pointer (some ⟨b7, 1, none⟩))] (by kernel_rfl) ?_
 refine GI_cell 31 (.tmp 25) 1 (pt v8) (some 26) (by kernel_rfl) (by kernel_rfl) (by kernel_rfl) qhb14 (fun f => f) (m := 1) (by kernel_rfl) rfl ?_
 refine GI_static [7, 8, 9, 10] [(1, pt b7), (2, nt 0), (3, nt 0), (26, pt v8), (29, pt b7)] (by kernel_rfl) ?_
 refine GI_cell 30 (.tmp 29) 0 (pt l9) (some 30) (by kernel_rfl) (by kernel_rfl) (by kernel_rfl) qhb14 (fun f => f) (m := 1) (by kernel_rfl) rfl ?_
 refine GI_static [9, 10] [(1, pt b7), (2, nt 0), (3, nt 0), (26, pt v8), (30, pt l9), (31, .agg #[nt 1, .bool true, nt 2, nt 10, nt 0, nt 0])] (by kernel_rfl) ?_
 refine GI_call0 { callee := (Callee.value (Operand.func 18)), args := #[(Operand.tmp 26), (Operand.tmp 30), (Operand.const (Value.int IntKind.i64 1)), (Operand.const (Value.int IntKind.i64 0)), (Operand.tmp 31)], argTypes := #[31, 30, 3, 3, 23] } 18 #[pt v8, pt l9, nt 1, nt 0, .agg #[nt 1, .bool true, nt 2, nt 10, nt 0, nt 0]] (some 32) (by kernel_rfl) (by kernel_rfl) (by kernel_rfl) (by kernel_rfl) (by kernel_rfl) (vote_spec F47 F50 v8 l9 knS2 knX knC2 1 0 (Vt.mk 1 true 2 10 0 0) _ ho48 ho51 hdis53 (by first | decide | exact kn5)) ?_
 rintro _ w67 ⟨rfl, ⟨F69, F72, ho70, ho73, hfr71, hfr74, hdis75⟩, hk68⟩
 refine ⟨_, rfl, ?_⟩
 have hsz76 := Keep.size hk68
 replace hb14 := hb14.keep hk68 (fun hs => by rcases hs with hs | hs; (have u0 := own56 _ hs; have u1 := lt55 _ hs; omega); (have u0 := own58 _ hs; have u1 := lt57 _ hs; omega))
 replace hK0 := Keep.fresh hK0 hk68 (by intro i hi hs; first | exact hs | (rcases hs with hs | hs; (have u0 := own56 i hs; have u1 := lt55 i hs; omega); (have u0 := own58 i hs; have u1 := lt57 i hs; omega)))
 have own78 : ∀ q, F69 q → w1.heap.size ≤ q ∧ q ≠ b7 := fun q hq => by rcases hfr71 q hq with h | h; (have h1 := own56 q h; have h2 := lt55 q h; omega); omega
 have lt77 := VotT.lt ho70
 have own80 : ∀ q, F72 q → w1.heap.size ≤ q ∧ q ≠ b7 := fun q hq => by rcases hfr74 q hq with h | h; (have h1 := own58 q h; have h2 := lt57 q h; omega); omega
 have lt79 := Led.lt ho73
 replace ho70 : VotT F69 w67 v8 knS3 := by rw [show voteS knX knS2 1 0 (Vt.mk 1 true 2 10 0 0) = knS3 from rfl] at ho70; exact ho70
 replace ho73 : Led F72 w67 l9 knX knC3 := by rw [show voteC knX knC2 knS2 1 0 (Vt.mk 1 true 2 10 0 0) = knC3 from rfl] at ho73; exact ho73
 refine GI_pick [(1, pt b7), (2, nt 0), (3, nt 0), (32, nt (voteE knX knS2 1 0 (Vt.mk 1 true 2 10 0 0)))] (by kernel_rfl) ?_
 refine GI_eq [(1, pt b7), (2, nt 0), (3, nt 0), (32, nt 0)] (by rw [show voteE knX knS2 1 0 (Vt.mk 1 true 2 10 0 0) = 0 from kn3]) ?_
 refine GI_static [] [(1, pt b7), (2, nt 0), (3, nt 0), (4, nt 0)] (by kernel_rfl) ?_
 refine GI_end ?_
 refine X_then ?_
 refine V_seq ?_
 refine V_region ?_
 refine OI_static 10 [(39, .bool true), (42, .pointer (some ⟨b7, 1, none⟩))] (by kernel_rfl) ?_
 refine OI_cell 31 (.tmp 42) 1 (pt v8) (some 43) (by kernel_rfl) (by kernel_rfl) hb14 (m := 1) (by kernel_rfl) rfl ?_
 refine OI_call { callee := (Callee.value (Operand.func 20)), args := #[(Operand.tmp 43), (Operand.const (Value.int IntKind.i64 0))], argTypes := #[31, 3] } 20 #[pt v8, nt 0] (some 44) (by kernel_rfl) (by kernel_rfl) (by kernel_rfl) (tally_spec F69 v8 knS3 0 _ (ho70).1) ?_
 rintro _ w81 ⟨rfl, hk82⟩
 refine ⟨_, rfl, ?_⟩
 have hsz83 := Keep.size hk82
 replace hK0 := Keep.tr hK0 (Keep.ofNone hk82)
 replace ho70 := VotT.keep ho70 hk82 (fun _ _ f => f)
 replace ho73 := Led.keep ho73 hk82 (fun _ _ f => f)
 refine OI_pick [(39, .bool true), (44, .agg (Tly.cells (tallyT knS3 0)).toArray)] (by kernel_rfl) ?_
 refine OI_eq [(39, .bool true), (44, .agg #[nt 30, nt 0, nt 20])] (by rw [kn4]; rfl) ?_
 refine OI_static 13 [(39, .bool true), (44, .agg #[nt 30, nt 0, nt 20]), (45, .agg #[nt 30, nt 0, nt 20])] (by kernel_rfl) ?_
 refine OI_pure (some 46) ((Op.binOp BinOp.eql 43 (Operand.tmp 44) (Operand.tmp 45) 43)) (by kernel_rfl) (pure_eql_same (xs := [nt 30, nt 0, nt 20]) (by kernel_rfl) (by kernel_rfl) (by kernel_rfl) (by kernel_rfl)) ?_
 refine OI_static 16 [(0, .bool true)] (by kernel_rfl) ?_
 refine OI_end rfl ?_
 refine X_then ?_
 refine V_ret ?_
 exact X_return (.bool true) rfl ⟨rfl, hK0⟩
end Go.Al


namespace Go.Al
open Go Go.RowKit Go.Proofs
theorem w64_eq (x : Int) : w64 x = (x + 9223372036854775808) % 18446744073709551616 - 9223372036854775808 := by
  show IntKind.i64.wrap x = _
  rw [IntKind.wrap_i64]
theorem addT_sub (t g h : Tly) : addT (subT (addT t g) g) h = addT t h := by
  unfold subT addT negT
  simp only [w64_eq, Tly.mk.injEq]
  refine ⟨?_, ?_, ?_⟩ <;> omega
theorem raise_lt {cs : List Ci} {m : Nat} (h : cs.length < m) (a t n : Int) : (raiseC cs a t n).length < m + 1 := by have := raiseC_len cs a t n; omega
theorem votes1 {n : Int} (h1 : 0 ≤ n) (h2 : n ≤ 1073741824) : cvVotes n 1 = n := by
  unfold cvVotes
  rw [if_neg (by decide), w64_id (by omega) (by omega)]; omega
theorem gets_nil {s : VS} {a t : Int} {wt : Wgt} (r0 : RecS) (h0 : s.rc a t = r0) (hv : vrow s a t = []) : getsS s a t wt = s.setR a t { r0 with got := gotW r0.got wt } := by
  unfold getsS
  rw [h0, hv]; rfl
theorem gotW_zero {v c : Int} (h1 : -9223372036854775808 ≤ v ∧ v ≤ 9223372036854775807) (h2 : -9223372036854775808 ≤ c ∧ c ≤ 9223372036854775807) : gotW ⟨0, 0⟩ ⟨v, c⟩ = ⟨v, c⟩ := by
  unfold gotW
  simp only [Int.zero_add]
  rw [w64_id h1.1 h1.2, w64_id h2.1 h2.2]
/-! ### A vote that is cast anew -/
def twX : List Acc := newX [0, 1048576, 1048576] 10
def twS1 : VS := openS VS.zero 0 0
def twS2 (lent : Int) : VS := (twS1.setR 2 0 ⟨some ⟨1, 1, lent⟩, ⟨0, 0⟩, 0, 0⟩).setR 1 0 ⟨none, ⟨lent, lent⟩, 0, 0⟩
def twS3 (lent : Int) (x : Vt) : VS := { (twS2 lent).setP 0 ⟨0, addT Tly.zero (gainT x ⟨lent, lent⟩), 0, 0⟩ with cs := [⟨1, 0, x⟩] }
theorem tw0 : newX (msk24 ([0, 1048576, 1048576].take 10)) 10 = twX := by kernel_rfl
theorem tw2 {lent : Int} (h1 : 0 ≤ lent) (h2 : lent ≤ 1048576) : delE twX twS1 2 0 1 1 lent = 0 ∧ delS twX twS1 2 0 1 1 lent = twS2 lent ∧ delC2 twX [] twS1 2 0 1 1 lent = raiseC [] 2 0 lent := by
  obtain ⟨g1, g2, g3⟩ := del_go (xs := twX) (s := twS1) (who := 2) (t := 0) (to := 1) (level := 1) (n := lent) (by decide) (by decide) (by decide) (by decide) ⟨h1, by omega⟩ (by decide) (by kernel_rfl) (by kernel_rfl) (by rw [show (acct twX 2).free = 1048576 by kernel_rfl]; exact h2)
  refine ⟨g1, ?_, g3 _⟩
  rw [g2, gets_nil RecS.zero (by kernel_rfl) (by kernel_rfl), votes1 h1 (by omega)]
  rw [show RecS.zero.got = ⟨0, 0⟩ from rfl, gotW_zero (by omega) (by omega)]
  rfl
theorem tw3 {lent : Int} {x : Vt} (h1 : okV x) (h2 : capI x ≤ 1048576) : voteE twX (twS2 lent) 1 0 x = 0 ∧ voteS twX (twS2 lent) 1 0 x = twS3 lent x ∧ ∀ cs, voteC twX cs (twS2 lent) 1 0 x = raiseC cs 1 0 (capI x) := by
  obtain ⟨g1, g2, g3⟩ := vote_go (xs := twX) (s := twS2 lent) (who := 1) (ref := 0) (x := x) (q := ⟨0, Tly.zero, 0, 0⟩) (by decide) h1 (by kernel_rfl) rfl (by kernel_rfl) (by rw [show (acct twX 1).free = 1048576 by kernel_rfl]; exact h2) (.inr (by rw [show vrow (twS2 lent) 1 0 = [] by kernel_rfl]; decide))
  refine ⟨g1, ?_, g3⟩
  rw [g2]; kernel_rfl
theorem tw4 {lent : Int} {x y : Vt} (h1 : okV y) (h2 : capI y ≤ 1048576) : voteE twX (twS3 lent x) 1 0 y = 0 ∧ voteS twX (twS3 lent x) 1 0 y = twS3 lent y ∧ ∀ cs, voteC twX cs (twS3 lent x) 1 0 y = raiseC cs 1 0 (capI y) := by
  obtain ⟨g1, g2, g3⟩ := vote_go (xs := twX) (s := twS3 lent x) (who := 1) (ref := 0) (x := y) (q := ⟨0, addT Tly.zero (gainT x ⟨lent, lent⟩), 0, 0⟩) (by decide) h1 (by kernel_rfl) rfl (by kernel_rfl) (by rw [show (acct twX 1).free = 1048576 by kernel_rfl]; exact h2) (.inl (by kernel_rfl))
  refine ⟨g1, ?_, g3⟩
  rw [g2, show voteT (twS3 lent x) 1 0 y ⟨0, addT Tly.zero (gainT x ⟨lent, lent⟩), 0, 0⟩ = addT (subT (addT Tly.zero (gainT x ⟨lent, lent⟩)) (gainT x ⟨lent, lent⟩)) (gainT y ⟨lent, lent⟩) by kernel_rfl, addT_sub]
  kernel_rfl
theorem tw_lk {lent : Int} {x y : Vt} (h1 : 0 ≤ lent) (h2 : lent ≤ 1048576) (hx : okV x) (hy : okV y) : lockedL (raiseC (raiseC (raiseC [] 2 0 lent) 1 0 (capI x)) 1 0 (capI y)) 1 = imax (capI x) (capI y) := by
  have bx := capI_ok hx
  have bY := capI_ok hy
  have k1 := LkOk.nil.raise 2 0 lent
  have k2 := k1.raise 1 0 (capI x)
  rw [locked_raise k2 (by kernel_rfl) bY.2.1 bY.2.2, locked_raise k1 (by kernel_rfl) bx.2.1 bx.2.2, locked_other LkOk.nil (by kernel_rfl) h1 (by omega) 0 (by decide), locked0]
  congr 1
  unfold imax; split <;> omega
end Go.Al


namespace Go.Al
open Go Go.RowKit Go.Proofs
set_option maxRecDepth 10000 in
set_option maxHeartbeats 1000000 in
theorem walk_VotingTwice (x y : Vt) (lent : Int) (w : World) : Calls Tryz.prog 3 #[.agg x.cells.toArray, .agg y.cells.toArray, .int .i64 lent] w fun e w' => e = .returned (.bool true) ∧ Keep none_ w w' := by
 have hK0 : Keep none_ w w := Keep.refl _ _
 have hzhK0 := Keep.size hK0
 refine enterV Tryz.func3 rfl [.agg (Vt.cells x).toArray, .agg (Vt.cells y).toArray, nt lent] 169 rfl rfl rfl ?_
 refine V_pick [(0, .agg (Vt.cells x).toArray), (1, .agg (Vt.cells y).toArray), (2, nt lent)] rfl ?_
 refine V_seq ?_
 refine V_region ?_
 refine OI_box 23 (.tmp 0) (.agg (Vt.cells x).toArray) (Vt.cells x) (some 3) (by kernel_rfl) (by kernel_rfl) rfl ?_
 intro b1 w1 e1 hb1 k1 z1
 have hsz2 := Keep.size k1
 replace hK0 := Keep.tr hK0 (Keep.ofNone k1)
 have hb1lt := hb1.lt
 refine OI_box 23 (.tmp 1) (.agg (Vt.cells y).toArray) (Vt.cells y) (some 4) (by kernel_rfl) (by kernel_rfl) rfl ?_
 intro b3 w3 e3 hb3 k3 z3
 have hsz4 := Keep.size k3
 replace hb1 := hb1.keep k3 (fun f => f)
 replace hK0 := Keep.tr hK0 (Keep.ofNone k3)
 have hb3lt := hb3.lt
 refine OI_static 3 [(2, nt lent), (3, pt b1), (4, pt b3)] (by kernel_rfl) ?_
 refine OI_end rfl ?_
 refine X_then ?_
 refine V_seq ?_
 refine V_seq ?_
 refine V_region ?_
 refine OI_agg 23 (.tmp 3) 0 (Vt.cells x) (some 14) (by kernel_rfl) (by kernel_rfl) hb1 (m := 6) (by kernel_rfl) (take_all (Vt.len _)) (Vt.len _) ?_
 refine OI_call { callee := (Callee.value (Operand.func 13)), args := #[(Operand.tmp 14)], argTypes := #[23] } 13 #[.agg (Vt.cells x).toArray] (some 15) (by kernel_rfl) (by kernel_rfl) (by kernel_rfl) (rIs_spec x _) ?_
 rintro _ w5 ⟨rfl, hk6⟩
 refine ⟨_, rfl, ?_⟩
 have hsz7 := Keep.size hk6
 replace hb1 := hb1.keep hk6 (fun f => f)
 replace hb3 := hb3.keep hk6 (fun f => f)
 replace hK0 := Keep.tr hK0 (Keep.ofNone hk6)
 refine OI_static 4 [(2, nt lent), (3, pt b1), (4, pt b3), (17, .bool (!(decide (okV x))))] (by kernel_rfl) ?_
 by_cases hg8 : okV x
 ·
  refine OI_eq [(2, nt lent), (3, pt b1), (4, pt b3), (17, .bool false)] (by first | simp [hg8] | rfl) ?_
  refine OI_agg 23 (.tmp 4) 0 (Vt.cells y) (some 18) (by kernel_rfl) (by kernel_rfl) hb3 (m := 6) (by kernel_rfl) (take_all (Vt.len _)) (Vt.len _) ?_
  refine OI_call { callee := (Callee.value (Operand.func 13)), args := #[(Operand.tmp 18)], argTypes := #[23] } 13 #[.agg (Vt.cells y).toArray] (some 19) (by kernel_rfl) (by kernel_rfl) (by kernel_rfl) (rIs_spec y _) ?_
  rintro _ w9 ⟨rfl, hk10⟩
  refine ⟨_, rfl, ?_⟩
  have hsz11 := Keep.size hk10
  replace hb1 := hb1.keep hk10 (fun f => f)
  replace hb3 := hb3.keep hk10 (fun f => f)
  replace hK0 := Keep.tr hK0 (Keep.ofNone hk10)
  refine OI_static 9 [(2, nt lent), (3, pt b1), (4, pt b3), (22, .bool (!(decide (okV y))))] (by kernel_rfl) ?_
  by_cases hg12 : okV y
  ·
   refine OI_eq [(2, nt lent), (3, pt b1), (4, pt b3), (22, .bool false)] (by first | simp [hg12] | rfl) ?_
   refine OI_agg 23 (.tmp 3) 0 (Vt.cells x) (some 23) (by kernel_rfl) (by kernel_rfl) hb1 (m := 6) (by kernel_rfl) (take_all (Vt.len _)) (Vt.len _) ?_
   refine OI_call { callee := (Callee.value (Operand.func 14)), args := #[(Operand.tmp 23)], argTypes := #[23] } 14 #[.agg (Vt.cells x).toArray] (some 24) (by kernel_rfl) (by kernel_rfl) (by kernel_rfl) (rCapital_spec x _) ?_
   rintro _ w13 ⟨rfl, hk14⟩
   refine ⟨_, rfl, ?_⟩
   have hsz15 := Keep.size hk14
   replace hb1 := hb1.keep hk14 (fun f => f)
   replace hb3 := hb3.keep hk14 (fun f => f)
   replace hK0 := Keep.tr hK0 (Keep.ofNone hk14)
   refine OI_static 14 [(2, nt lent), (3, pt b1), (4, pt b3), (27, .bool (decide (capI x > 1048576)))] (by kernel_rfl) ?_
   by_cases hg16 : capI x > 1048576
   ·
    refine OI_eq [(2, nt lent), (3, pt b1), (4, pt b3), (27, .bool true)] (by first | simp [hg16] | rfl) ?_
    refine OI_static 26 [(2, nt lent), (3, pt b1), (4, pt b3), (39, .bool true)] (by kernel_rfl) ?_
    refine OI_end rfl ?_
    refine X_then ?_
    refine V_true rfl ?_
    refine V_seq ?_
    refine V_region ?_
    refine OI_static 1 [(6, .bool true)] (by kernel_rfl) ?_
    refine OI_end rfl ?_
    refine X_then ?_
    refine V_ret ?_
    refine X_ret_then ?_
    exact X_return (.bool true) rfl ⟨rfl, hK0⟩
   ·
    refine OI_eq [(2, nt lent), (3, pt b1), (4, pt b3), (27, .bool false)] (by first | simp [hg16] | rfl) ?_
    refine OI_agg 23 (.tmp 4) 0 (Vt.cells y) (some 28) (by kernel_rfl) (by kernel_rfl) hb3 (m := 6) (by kernel_rfl) (take_all (Vt.len _)) (Vt.len _) ?_
    refine OI_call { callee := (Callee.value (Operand.func 14)), args := #[(Operand.tmp 28)], argTypes := #[23] } 14 #[.agg (Vt.cells y).toArray] (some 29) (by kernel_rfl) (by kernel_rfl) (by kernel_rfl) (rCapital_spec y _) ?_
    rintro _ w17 ⟨rfl, hk18⟩
    refine ⟨_, rfl, ?_⟩
    have hsz19 := Keep.size hk18
    replace hb1 := hb1.keep hk18 (fun f => f)
    replace hb3 := hb3.keep hk18 (fun f => f)
    replace hK0 := Keep.tr hK0 (Keep.ofNone hk18)
    refine OI_static 19 [(2, nt lent), (3, pt b1), (4, pt b3), (32, .bool (decide (capI y > 1048576)))] (by kernel_rfl) ?_
    by_cases hg20 : capI y > 1048576
    ·
     refine OI_eq [(2, nt lent), (3, pt b1), (4, pt b3), (32, .bool true)] (by first | simp [hg20] | rfl) ?_
     refine OI_static 26 [(2, nt lent), (3, pt b1), (4, pt b3), (39, .bool true)] (by kernel_rfl) ?_
     refine OI_end rfl ?_
     refine X_then ?_
     refine V_true rfl ?_
     refine V_seq ?_
     refine V_region ?_
     refine OI_static 1 [(6, .bool true)] (by kernel_rfl) ?_
     refine OI_end rfl ?_
     refine X_then ?_
     refine V_ret ?_
     refine X_ret_then ?_
     exact X_return (.bool true) rfl ⟨rfl, hK0⟩
    ·
     refine OI_eq [(2, nt lent), (3, pt b1), (4, pt b3), (32, .bool false)] (by first | simp [hg20] | rfl) ?_
     refine OI_static 23 [(2, nt lent), (3, pt b1), (4, pt b3), (36, .bool (decide (lent < 0)))] (by kernel_rfl) ?_
     by_cases hg21 : lent < 0
     ·
      refine OI_eq [(2, nt lent), (3, pt b1), (4, pt b3), (36, .bool true)] (by first | simp [hg21] | rfl) ?_
      refine OI_static 26 [(2, nt lent), (3, pt b1), (4, pt b3), (39, .bool true)] (by kernel_rfl) ?_
      refine OI_end rfl ?_
      refine X_then ?_
      refine V_true rfl ?_
      refine V_seq ?_
      refine V_region ?_
      refine OI_static 1 [(6, .bool true)] (by kernel_rfl) ?_
      refine OI_end rfl ?_
      refine X_then ?_
      refine V_ret ?_
      refine X_ret_then ?_
      exact X_return (.bool true) rfl ⟨rfl, hK0⟩
     ·
      refine OI_eq [(2, nt lent), (3, pt b1), (4, pt b3), (36, .bool false)] (by first | simp [hg21] | rfl) ?_
      refine OI_static 26 [(2, nt lent), (3, pt b1), (4, pt b3), (39, .bool (decide (lent > 1048576)))] (by kernel_rfl) ?_
      refine OI_end rfl ?_
      refine X_then ?_
      refine V_if (lent > 1048576) (by kernel_rfl) (fun hc22 => ?_) (fun hc22 => ?_)
      ·
       refine V_seq ?_
       refine V_region ?_
       refine OI_static 1 [(6, .bool true)] (by kernel_rfl) ?_
       refine OI_end rfl ?_
       refine X_then ?_
       refine V_ret ?_
       refine X_ret_then ?_
       exact X_return (.bool true) rfl ⟨rfl, hK0⟩
      ·
       refine V_skip ?_
       refine X_then ?_
       refine V_seq ?_
       refine V_region ?_
       refine OI_slit (E := 3) (zv := nt 0) (sz := 1) (by_ := 8) 28 3 #[(0, (Operand.const (Value.int IntKind.i64 0))), (1, (Operand.const (Value.int IntKind.i64 1048576))), (2, (Operand.const (Value.int IntKind.i64 1048576)))] [nt 0, nt 1048576, nt 1048576] [nt 0, nt 1048576, nt 1048576] (some 40) (by kernel_rfl) (by kernel_rfl) (by kernel_rfl) (by omega) rfl (by omega) (by intro v hv; simp only [List.mem_cons, List.not_mem_nil, or_false] at hv; rcases hv with rfl | rfl | rfl <;> rfl) (by kernel_rfl) rfl ?_
       intro b23 w23 e23 hb23 k23 z23
       have hsz24 := Keep.size k23
       replace hb1 := hb1.keep k23 (fun f => f)
       replace hb3 := hb3.keep k23 (fun f => f)
       replace hK0 := Keep.tr hK0 (Keep.ofNone k23)
       have hb23lt := hb23.lt
       refine OI_call { callee := (Callee.value (Operand.func 15)), args := #[(Operand.tmp 40)], argTypes := #[28] } 15 #[.slice (some ⟨b23, 0, none⟩) 3 3] (some 41) (by kernel_rfl) (by kernel_rfl) (by kernel_rfl) (begin_weak (some ⟨b23, 0, none⟩) 3 [0, 1048576, 1048576] _ (slt_blk (xs := [0, 1048576, 1048576]) (f := intc) hb23 (fun _ => rfl) rfl).arg (by simp)) ?_
       rintro _ w27 ⟨b29, v30, l31, F32, G33, xv34, yv35, rfl, hb36, ho37, hl38, hk28, hge39, hF40, hG41, hd42⟩
       refine ⟨_, rfl, ?_⟩
       have hsz43 := Keep.size hk28
       replace hb1 := hb1.keep hk28 (fun f => f)
       replace hb3 := hb3.keep hk28 (fun f => f)
       replace hb23 := hb23.keep hk28 (fun f => f)
       replace hK0 := Keep.tr hK0 (Keep.ofNone hk28)
       have hb29lt := hb36.lt
       have own44 : ∀ q, F32 q → w23.heap.size ≤ q ∧ q ≠ b1 ∧ q ≠ b3 ∧ q ≠ b23 ∧ q ≠ b29 := fun q hq => by have h1 := hF40 q hq; omega
       have lt45 := VotT.lt ho37
       have hb29lt := hb36.lt
       have own46 : ∀ q, G33 q → w23.heap.size ≤ q ∧ q ≠ b1 ∧ q ≠ b3 ∧ q ≠ b23 ∧ q ≠ b29 := fun q hq => by have h1 := hG41 q hq; omega
       have lt47 := Led.lt hl38
       replace hl38 : Led G33 w27 l31 twX ([] : List Ci) := by rw [tw0] at hl38; exact hl38
       refine OI_static 3 [(2, nt lent), (3, pt b1), (4, pt b3), (7, pt b29)] (by kernel_rfl) ?_
       refine OI_end rfl ?_
       refine X_then ?_
       refine V_seq ?_
       refine V_region ?_
       refine OI_slit (E := 3) (zv := nt 0) (sz := 1) (by_ := 8) 28 3 #[(0, (Operand.const (Value.int IntKind.i64 0))), (1, (Operand.const (Value.int IntKind.i64 1048576))), (2, (Operand.const (Value.int IntKind.i64 1048576)))] [nt 0, nt 1048576, nt 1048576] [nt 0, nt 1048576, nt 1048576] (some 42) (by kernel_rfl) (by kernel_rfl) (by kernel_rfl) (by omega) rfl (by omega) (by intro v hv; simp only [List.mem_cons, List.not_mem_nil, or_false] at hv; rcases hv with rfl | rfl | rfl <;> rfl) (by kernel_rfl) rfl ?_
       intro b48 w48 e48 hb48 k48 z48
       have hsz49 := Keep.size k48
       replace hb1 := hb1.keep k48 (fun f => f)
       replace hb3 := hb3.keep k48 (fun f => f)
       replace hb36 := hb36.keep k48 (fun f => f)
       replace hK0 := Keep.tr hK0 (Keep.ofNone k48)
       replace hl38 := Led.keep hl38 k48 (fun _ _ f => f)
       replace ho37 := VotT.keep ho37 k48 (fun _ _ f => f)
       have hb48lt := hb48.lt
       refine OI_call { callee := (Callee.value (Operand.func 15)), args := #[(Operand.tmp 42)], argTypes := #[28] } 15 #[.slice (some ⟨b48, 0, none⟩) 3 3] (some 43) (by kernel_rfl) (by kernel_rfl) (by kernel_rfl) (begin_weak (some ⟨b48, 0, none⟩) 3 [0, 1048576, 1048576] _ (slt_blk (xs := [0, 1048576, 1048576]) (f := intc) hb48 (fun _ => rfl) rfl).arg (by simp)) ?_
       rintro _ w52 ⟨b54, v55, l56, F57, G58, xv59, yv60, rfl, hb61, ho62, hl63, hk53, hge64, hF65, hG66, hd67⟩
       refine ⟨_, rfl, ?_⟩
       have hsz68 := Keep.size hk53
       replace hb1 := hb1.keep hk53 (fun f => f)
       replace hb3 := hb3.keep hk53 (fun f => f)
       replace hb36 := hb36.keep hk53 (fun f => f)
       replace hb48 := hb48.keep hk53 (fun f => f)
       replace hK0 := Keep.tr hK0 (Keep.ofNone hk53)
       replace hl38 := Led.keep hl38 hk53 (fun _ _ f => f)
       replace ho37 := VotT.keep ho37 hk53 (fun _ _ f => f)
       have hb54lt := hb61.lt
       have own69 : ∀ q, F57 q → w48.heap.size ≤ q ∧ q ≠ b1 ∧ q ≠ b3 ∧ q ≠ b29 ∧ q ≠ b48 ∧ q ≠ b54 := fun q hq => by have h1 := hF65 q hq; omega
       have lt70 := VotT.lt ho62
       have dis71 : ∀ q, F57 q → ¬ G33 q := fun q h1 h2 => by have h3 := hF65 q h1; have h4 := lt47 q h2; omega
       have dis72 : ∀ q, F57 q → ¬ F32 q := fun q h1 h2 => by have h3 := hF65 q h1; have h4 := lt45 q h2; omega
       have hb54lt := hb61.lt
       have own73 : ∀ q, G58 q → w48.heap.size ≤ q ∧ q ≠ b1 ∧ q ≠ b3 ∧ q ≠ b29 ∧ q ≠ b48 ∧ q ≠ b54 := fun q hq => by have h1 := hG66 q hq; omega
       have lt74 := Led.lt hl63
       have dis75 : ∀ q, G58 q → ¬ G33 q := fun q h1 h2 => by have h3 := hG66 q h1; have h4 := lt47 q h2; omega
       have dis76 : ∀ q, G58 q → ¬ F32 q := fun q h1 h2 => by have h3 := hG66 q h1; have h4 := lt45 q h2; omega
       replace hl63 : Led G58 w52 l56 twX ([] : List Ci) := by rw [tw0] at hl63; exact hl63
       refine OI_static 3 [(2, nt lent), (3, pt b1), (4, pt b3), (7, pt b29), (8, pt b54)] (by kernel_rfl) ?_
       refine OI_end rfl ?_
       refine X_then ?_
       refine V_seq ?_
       refine V_seq ?_
       refine V_region ?_
       refine OI_static 6 [(2, nt lent), (3, pt b1), (4, pt b3), (7, pt b29), (8, pt b54), (49, .bool false)] (by kernel_rfl) ?_
       refine OI_end rfl ?_
       refine X_then ?_
       refine V_false rfl ?_
       refine V_skip ?_
       refine X_then ?_
       refine V_seq ?_
       refine V_region ?_
       refine OI_static 3 [(2, nt lent), (3, pt b1), (4, pt b3), (7, pt b29), (8, pt b54), (52, .pointer (some ⟨b29, 1, none⟩))] (by kernel_rfl) ?_
       refine OI_cell 31 (.tmp 52) 1 (pt v30) (some 53) (by kernel_rfl) (by kernel_rfl) hb36 (m := 1) (by kernel_rfl) rfl ?_
       refine OI_call { callee := (Callee.value (Operand.func 16)), args := #[(Operand.tmp 53), (Operand.const (Value.int IntKind.i64 0)), (Operand.const (Value.int IntKind.i64 0))], argTypes := #[31, 3, 3] } 16 #[pt v30, nt 0, nt 0] (some 54) (by kernel_rfl) (by kernel_rfl) (by kernel_rfl) (open_specT F32 v30 VS.zero 0 0 _ ho37) ?_
       rintro _ w79 ⟨rfl, ⟨F81, ho82, hfr83⟩, hk80⟩
       refine ⟨_, rfl, ?_⟩
       have hsz84 := Keep.size hk80
       replace hb1 := hb1.keep hk80 (fun hs => by have h1 := own44 _ hs; have h2 := lt45 _ hs; omega)
       replace hb3 := hb3.keep hk80 (fun hs => by have h1 := own44 _ hs; have h2 := lt45 _ hs; omega)
       replace hb36 := hb36.keep hk80 (fun hs => by have h1 := own44 _ hs; have h2 := lt45 _ hs; omega)
       replace hb61 := hb61.keep hk80 (fun hs => by have h1 := own44 _ hs; have h2 := lt45 _ hs; omega)
       replace hK0 := Keep.fresh hK0 hk80 (by intro i hi hs; first | exact hs | (exfalso; have h1 := own44 i hs; have h2 := lt45 i hs; omega) | (have h1 := own44 i hs; have h2 := lt45 i hs; show _ ∨ _; omega))
       replace hl38 := Led.keep hl38 hk80 (fun q hq hs => hd42 q hs hq)
       replace hl63 := Led.keep hl63 hk80 (fun q hq hs => (fun q h1 h2 => dis76 q h2 h1) q hs hq)
       replace ho62 := VotT.keep ho62 hk80 (fun q hq hs => (fun q h1 h2 => dis72 q h2 h1) q hs hq)
       have own86 : ∀ q, F81 q → w23.heap.size ≤ q ∧ q ≠ b1 ∧ q ≠ b3 ∧ q ≠ b29 ∧ q ≠ b54 := fun q hq => by rcases hfr83 q hq with h | h; (have h1 := own44 q h; have h2 := lt45 q h; omega); omega
       have lt85 := VotT.lt ho82
       have dis87 : ∀ q, F81 q → ¬ G33 q := fun q h1 h2 => by rcases hfr83 q h1 with h | h; exact hd42 q h h2; (have h4 := lt47 q h2; omega)
       have dis88 : ∀ q, F81 q → ¬ G58 q := fun q h1 h2 => by rcases hfr83 q h1 with h | h; exact (fun q h1 h2 => dis76 q h2 h1) q h h2; (have h4 := lt74 q h2; omega)
       have dis89 : ∀ q, F81 q → ¬ F57 q := fun q h1 h2 => by rcases hfr83 q h1 with h | h; exact (fun q h1 h2 => dis72 q h2 h1) q h h2; (have h4 := lt70 q h2; omega)
       replace ho82 : VotT F81 w79 v30 twS1 := by rw [show openS VS.zero 0 0 = twS1 from rfl] at ho82; exact ho82
       refine OI_end rfl ?_
       refine X_then ?_
       refine V_seq ?_
       refine V_region ?_
       refine OI_static 3 [(2, nt lent), (3, pt b1), (4, pt b3), (7, pt b29), (8, pt b54), (57, .pointer (some ⟨b54, 1, none⟩))] (by kernel_rfl) ?_
       refine OI_cell 31 (.tmp 57) 1 (pt v55) (some 58) (by kernel_rfl) (by kernel_rfl) hb61 (m := 1) (by kernel_rfl) rfl ?_
       refine OI_call { callee := (Callee.value (Operand.func 16)), args := #[(Operand.tmp 58), (Operand.const (Value.int IntKind.i64 0)), (Operand.const (Value.int IntKind.i64 0))], argTypes := #[31, 3, 3] } 16 #[pt v55, nt 0, nt 0] (some 59) (by kernel_rfl) (by kernel_rfl) (by kernel_rfl) (open_specT F57 v55 VS.zero 0 0 _ ho62) ?_
       rintro _ w92 ⟨rfl, ⟨F94, ho95, hfr96⟩, hk93⟩
       refine ⟨_, rfl, ?_⟩
       have hsz97 := Keep.size hk93
       replace hb1 := hb1.keep hk93 (fun hs => by have h1 := own69 _ hs; have h2 := lt70 _ hs; omega)
       replace hb3 := hb3.keep hk93 (fun hs => by have h1 := own69 _ hs; have h2 := lt70 _ hs; omega)
       replace hb36 := hb36.keep hk93 (fun hs => by have h1 := own69 _ hs; have h2 := lt70 _ hs; omega)
       replace hb61 := hb61.keep hk93 (fun hs => by have h1 := own69 _ hs; have h2 := lt70 _ hs; omega)
       replace hK0 := Keep.fresh hK0 hk93 (by intro i hi hs; first | exact hs | (exfalso; have h1 := own69 i hs; have h2 := lt70 i hs; omega) | (have h1 := own69 i hs; have h2 := lt70 i hs; show _ ∨ _; omega))
       replace hl38 := Led.keep hl38 hk93 (fun q hq hs => dis71 q hs hq)
       replace hl63 := Led.keep hl63 hk93 (fun q hq hs => hd67 q hs hq)
       replace ho82 := VotT.keep ho82 hk93 (fun q hq hs => (fun q h1 h2 => dis89 q h2 h1) q hs hq)
       have own99 : ∀ q, F94 q → w48.heap.size ≤ q ∧ q ≠ b1 ∧ q ≠ b3 ∧ q ≠ b29 ∧ q ≠ b54 := fun q hq => by rcases hfr96 q hq with h | h; (have h1 := own69 q h; have h2 := lt70 q h; omega); omega
       have lt98 := VotT.lt ho95
       have dis100 : ∀ q, F94 q → ¬ G33 q := fun q h1 h2 => by rcases hfr96 q h1 with h | h; exact dis71 q h h2; (have h4 := lt47 q h2; omega)
       have dis101 : ∀ q, F94 q → ¬ G58 q := fun q h1 h2 => by rcases hfr96 q h1 with h | h; exact hd67 q h h2; (have h4 := lt74 q h2; omega)
       have dis102 : ∀ q, F94 q → ¬ F81 q := fun q h1 h2 => by rcases hfr96 q h1 with h | h; exact (fun q h1 h2 => dis89 q h2 h1) q h h2; (have h4 := lt85 q h2; omega)
       replace ho95 : VotT F94 w92 v55 twS1 := by rw [show openS VS.zero 0 0 = twS1 from rfl] at ho95; exact ho95
       refine OI_end rfl ?_
       refine X_then ?_
       refine V_seq ?_
       refine V_draws (acts [9]) none_ [[0, 1, 2, 3, 4, 5, 6, 7, 8, 9]] (by kernel_rfl) (by repeat first | exact sure_body (by rintro _ _ ⟨h, _⟩; exact ⟨_, h⟩) | refine sure_then ?_ | refine sure_block ?_ | refine sure_join ?_) (by kernel_rfl) ?_
       intro w104 hk103 he105 L hL106
       have hsz107 := Keep.size hk103
       replace hb1 := hb1.keep hk103 (fun f => f)
       replace hb3 := hb3.keep hk103 (fun f => f)
       replace hb36 := hb36.keep hk103 (fun f => f)
       replace hb61 := hb61.keep hk103 (fun f => f)
       replace hK0 := Keep.tr hK0 (Keep.ofNone hk103)
       replace hl38 := Led.keep hl38 hk103 (fun _ _ f => f)
       replace hl63 := Led.keep hl63 hk103 (fun _ _ f => f)
       replace ho82 := VotT.keep ho82 hk103 (fun _ _ f => f)
       replace ho95 := VotT.keep ho95 hk103 (fun _ _ f => f)
       have qhb1 := hb1
       have qhb3 := hb3
       have qhb36 := hb36
       have qhb61 := hb61
       have K108 : Keep none_ w104 w104 := Keep.refl _ _
       obtain rfl := List.mem_singleton.1 hL106
       refine GI_static [3, 4, 5, 6, 7, 8, 9] [(2, nt lent), (3, pt b1), (4, pt b3), (7, pt b29), (8, pt b54), (62, .pointer (some ⟨b29, 1, none⟩))] (by kernel_rfl) ?_
       refine GI_cell 31 (.tmp 62) 1 (pt v30) (some 63) (by kernel_rfl) (by kernel_rfl) (by kernel_rfl) qhb36 (fun f => f) (m := 1) (by kernel_rfl) rfl ?_
       refine GI_static [7, 8, 9] [(2, nt lent), (3, pt b1), (4, pt b3), (7, pt b29), (8, pt b54), (63, pt v30), (66, pt b29)] (by kernel_rfl) ?_
       refine GI_cell 30 (.tmp 66) 0 (pt l31) (some 67) (by kernel_rfl) (by kernel_rfl) (by kernel_rfl) qhb36 (fun f => f) (m := 1) (by kernel_rfl) rfl ?_
       refine GI_static [9] [(2, nt lent), (3, pt b1), (4, pt b3), (7, pt b29), (8, pt b54), (63, pt v30), (67, pt l31), (68, nt lent)] (by kernel_rfl) ?_
       refine GI_final 9 (by kernel_rfl) (by kernel_rfl) ?_
       obtain ⟨hd1120, hd2120, hd3120⟩ := tw2 (lent := lent) (by omega) (by omega)
       refine OI_call { callee := (Callee.value (Operand.func 17)), args := #[(Operand.tmp 63), (Operand.tmp 67), (Operand.const (Value.int IntKind.i64 2)), (Operand.const (Value.int IntKind.i64 0)), (Operand.const (Value.int IntKind.i64 1)), (Operand.const (Value.int IntKind.i64 1)), (Operand.tmp 68)], argTypes := #[31, 30, 3, 3, 3, 3, 3] } 17 #[pt v30, pt l31, nt 2, nt 0, nt 1, nt 1, nt lent] (some 69) (by kernel_rfl) (by kernel_rfl) (by kernel_rfl) (delegate_spec F81 G33 v30 l31 twS1 twX ([] : List Ci) 2 0 1 1 lent _ ho82 hl38 dis87 (by first | decide | exact Nat.lt_trans (raise_lt (m := 1) (by decide) _ _ _) (by decide) | exact Nat.lt_trans (raise_lt (raise_lt (m := 1) (by decide) _ _ _) _ _ _) (by decide) | exact Nat.lt_trans (raise_lt (raise_lt (raise_lt (m := 1) (by decide) _ _ _) _ _ _) _ _ _) (by decide) | exact Nat.lt_trans (raise_lt (raise_lt (raise_lt (raise_lt (m := 1) (by decide) _ _ _) _ _ _) _ _ _) _ _ _) (by decide))) ?_
       rintro _ w111 ⟨rfl, ⟨F113, F116, ho114, ho117, hfr115, hfr118, hdis119⟩, hk112⟩
       refine ⟨_, rfl, ?_⟩
       have hsz121 := Keep.size hk112
       replace hb1 := hb1.keep hk112 (fun hs => by rcases hs with hs | hs; (have u0 := own86 _ hs; have u1 := lt85 _ hs; omega); (have u0 := own46 _ hs; have u1 := lt47 _ hs; omega))
       replace hb3 := hb3.keep hk112 (fun hs => by rcases hs with hs | hs; (have u0 := own86 _ hs; have u1 := lt85 _ hs; omega); (have u0 := own46 _ hs; have u1 := lt47 _ hs; omega))
       replace hb36 := hb36.keep hk112 (fun hs => by rcases hs with hs | hs; (have u0 := own86 _ hs; have u1 := lt85 _ hs; omega); (have u0 := own46 _ hs; have u1 := lt47 _ hs; omega))
       replace hb61 := hb61.keep hk112 (fun hs => by rcases hs with hs | hs; (have u0 := own86 _ hs; have u1 := lt85 _ hs; omega); (have u0 := own46 _ hs; have u1 := lt47 _ hs; omega))
       replace hK0 := Keep.fresh hK0 hk112 (by intro i hi hs; first | exact hs | (rcases hs with hs | hs; (have u0 := own86 i hs; have u1 := lt85 i hs; omega); (have u0 := own46 i hs; have u1 := lt47 i hs; omega)))
       replace hl63 := Led.keep hl63 hk112 (fun q hq hs => by rcases hs with hs | hs; exact (fun q h1 h2 => dis88 q h2 h1) q hq hs; exact dis75 q hq hs)
       replace ho95 := VotT.keep ho95 hk112 (fun q hq hs => by rcases hs with hs | hs; exact dis102 q hq hs; exact dis100 q hq hs)
       have own123 : ∀ q, F113 q → w23.heap.size ≤ q ∧ q ≠ b1 ∧ q ≠ b3 ∧ q ≠ b29 ∧ q ≠ b54 := fun q hq => by rcases hfr115 q hq with h | h; (have h1 := own86 q h; have h2 := lt85 q h; omega); omega
       have lt122 := VotT.lt ho114
       have dis124 : ∀ q, F113 q → ¬ G58 q := fun q h1 h2 => by rcases hfr115 q h1 with h | h; exact dis88 q h h2; (have h4 := lt74 q h2; omega)
       have dis125 : ∀ q, F113 q → ¬ F94 q := fun q h1 h2 => by rcases hfr115 q h1 with h | h; exact (fun q h1 h2 => dis102 q h2 h1) q h h2; (have h4 := lt98 q h2; omega)
       have own127 : ∀ q, F116 q → w23.heap.size ≤ q ∧ q ≠ b1 ∧ q ≠ b3 ∧ q ≠ b29 ∧ q ≠ b54 := fun q hq => by rcases hfr118 q hq with h | h; (have h1 := own46 q h; have h2 := lt47 q h; omega); omega
       have lt126 := Led.lt ho117
       have dis128 : ∀ q, F116 q → ¬ G58 q := fun q h1 h2 => by rcases hfr118 q h1 with h | h; exact (fun q h1 h2 => dis75 q h2 h1) q h h2; (have h4 := lt74 q h2; omega)
       have dis129 : ∀ q, F116 q → ¬ F94 q := fun q h1 h2 => by rcases hfr118 q h1 with h | h; exact (fun q h1 h2 => dis100 q h2 h1) q h h2; (have h4 := lt98 q h2; omega)
       replace ho114 : VotT F113 w111 v30 (twS2 lent) := by rw [hd2120] at ho114; exact ho114
       replace ho117 : Led F116 w111 l31 twX (raiseC ([] : List Ci) 2 0 lent) := by rw [hd3120] at ho117; exact ho117
       refine OI_end rfl ?_
       refine X_then ?_
       refine V_seq ?_
       refine V_draws (acts [9]) none_ [[0, 1, 2, 3, 4, 5, 6, 7, 8, 9]] (by kernel_rfl) (by repeat first | exact sure_body (by rintro _ _ ⟨h, _⟩; exact ⟨_, h⟩) | refine sure_then ?_ | refine sure_block ?_ | refine sure_join ?_) (by kernel_rfl) ?_
       intro w131 hk130 he132 L hL133
       have hsz134 := Keep.size hk130
       replace hb1 := hb1.keep hk130 (fun f => f)
       replace hb3 := hb3.keep hk130 (fun f => f)
       replace hb36 := hb36.keep hk130 (fun f => f)
       replace hb61 := hb61.keep hk130 (fun f => f)
       replace hK0 := Keep.tr hK0 (Keep.ofNone hk130)
       replace hl63 := Led.keep hl63 hk130 (fun _ _ f => f)
       replace ho95 := VotT.keep ho95 hk130 (fun _ _ f => f)
       replace ho114 := VotT.keep ho114 hk130 (fun _ _ f => f)
       replace ho117 := Led.keep ho117 hk130 (fun _ _ f => f)
       have qhb1 := hb1
       have qhb3 := hb3
       have qhb36 := hb36
       have qhb61 := hb61
       have K135 : Keep none_ w131 w131 := Keep.refl _ _
       obtain rfl := List.mem_singleton.1 hL133
       refine GI_static [3, 4, 5, 6, 7, 8, 9] [(2, nt lent), (3, pt b1), (4, pt b3), (7, pt b29), (8, pt b54), (72, .pointer (some ⟨b54, 1, none⟩))] (by kernel_rfl) ?_
       refine GI_cell 31 (.tmp 72) 1 (pt v55) (some 73) (by kernel_rfl) (by kernel_rfl) (by kernel_rfl) qhb61 (fun f => f) (m := 1) (by kernel_rfl) rfl ?_
       refine GI_static [7, 8, 9] [(2, nt lent), (3, pt b1), (4, pt b3), (7, pt b29), (8, pt b54), (73, pt v55), (76, pt b54)] (by kernel_rfl) ?_
       refine GI_cell 30 (.tmp 76) 0 (pt l56) (some 77) (by kernel_rfl) (by kernel_rfl) (by kernel_rfl) qhb61 (fun f => f) (m := 1) (by kernel_rfl) rfl ?_
       refine GI_static [9] [(3, pt b1), (4, pt b3), (7, pt b29), (8, pt b54), (73, pt v55), (77, pt l56), (78, nt lent)] (by kernel_rfl) ?_
       refine GI_final 9 (by kernel_rfl) (by kernel_rfl) ?_
       obtain ⟨hd1147, hd2147, hd3147⟩ := tw2 (lent := lent) (by omega) (by omega)
       refine OI_call { callee := (Callee.value (Operand.func 17)), args := #[(Operand.tmp 73), (Operand.tmp 77), (Operand.const (Value.int IntKind.i64 2)), (Operand.const (Value.int IntKind.i64 0)), (Operand.const (Value.int IntKind.i64 1)), (Operand.const (Value.int IntKind.i64 1)), (Operand.tmp 78)], argTypes := #[31, 30, 3, 3, 3, 3, 3] } 17 #[pt v55, pt l56, nt 2, nt 0, nt 1, nt 1, nt lent] (some 79) (by kernel_rfl) (by kernel_rfl) (by kernel_rfl) (delegate_spec F94 G58 v55 l56 twS1 twX ([] : List Ci) 2 0 1 1 lent _ ho95 hl63 dis101 (by first | decide | exact Nat.lt_trans (raise_lt (m := 1) (by decide) _ _ _) (by decide) | exact Nat.lt_trans (raise_lt (raise_lt (m := 1) (by decide) _ _ _) _ _ _) (by decide) | exact Nat.lt_trans (raise_lt (raise_lt (raise_lt (m := 1) (by decide) _ _ _) _ _ _) _ _ _) (by decide) | exact Nat.lt_trans (raise_lt (raise_lt (raise_lt (raise_lt (m := 1) (by decide) _ _ _) _ _ _) _ _ _) _ _ _) (by decide))) ?_
       rintro _ w138 ⟨rfl, ⟨F140, F143, ho141, ho144, hfr142, hfr145, hdis146⟩, hk139⟩
       refine ⟨_, rfl, ?_⟩
       have hsz148 := Keep.size hk139
       replace hb1 := hb1.keep hk139 (fun hs => by rcases hs with hs | hs; (have u0 := own99 _ hs; have u1 := lt98 _ hs; omega); (have u0 := own73 _ hs; have u1 := lt74 _ hs; omega))
       replace hb3 := hb3.keep hk139 (fun hs => by rcases hs with hs | hs; (have u0 := own99 _ hs; have u1 := lt98 _ hs; omega); (have u0 := own73 _ hs; have u1 := lt74 _ hs; omega))
       replace hb36 := hb36.keep hk139 (fun hs => by rcases hs with hs | hs; (have u0 := own99 _ hs; have u1 := lt98 _ hs; omega); (have u0 := own73 _ hs; have u1 := lt74 _ hs; omega))
       replace hb61 := hb61.keep hk139 (fun hs => by rcases hs with hs | hs; (have u0 := own99 _ hs; have u1 := lt98 _ hs; omega); (have u0 := own73 _ hs; have u1 := lt74 _ hs; omega))
       replace hK0 := Keep.fresh hK0 hk139 (by intro i hi hs; first | exact hs | (rcases hs with hs | hs; (have u0 := own99 i hs; have u1 := lt98 i hs; omega); (have u0 := own73 i hs; have u1 := lt74 i hs; omega)))
       replace ho114 := VotT.keep ho114 hk139 (fun q hq hs => by rcases hs with hs | hs; exact dis125 q hq hs; exact dis124 q hq hs)
       replace ho117 := Led.keep ho117 hk139 (fun q hq hs => by rcases hs with hs | hs; exact dis129 q hq hs; exact dis128 q hq hs)
       have own150 : ∀ q, F140 q → w48.heap.size ≤ q ∧ q ≠ b1 ∧ q ≠ b3 ∧ q ≠ b29 ∧ q ≠ b54 := fun q hq => by rcases hfr142 q hq with h | h; (have h1 := own99 q h; have h2 := lt98 q h; omega); omega
       have lt149 := VotT.lt ho141
       have dis151 : ∀ q, F140 q → ¬ F113 q := fun q h1 h2 => by rcases hfr142 q h1 with h | h; exact (fun q h1 h2 => dis125 q h2 h1) q h h2; (have h4 := lt122 q h2; omega)
       have dis152 : ∀ q, F140 q → ¬ F116 q := fun q h1 h2 => by rcases hfr142 q h1 with h | h; exact (fun q h1 h2 => dis129 q h2 h1) q h h2; (have h4 := lt126 q h2; omega)
       have own154 : ∀ q, F143 q → w48.heap.size ≤ q ∧ q ≠ b1 ∧ q ≠ b3 ∧ q ≠ b29 ∧ q ≠ b54 := fun q hq => by rcases hfr145 q hq with h | h; (have h1 := own73 q h; have h2 := lt74 q h; omega); omega
       have lt153 := Led.lt ho144
       have dis155 : ∀ q, F143 q → ¬ F113 q := fun q h1 h2 => by rcases hfr145 q h1 with h | h; exact (fun q h1 h2 => dis124 q h2 h1) q h h2; (have h4 := lt122 q h2; omega)
       have dis156 : ∀ q, F143 q → ¬ F116 q := fun q h1 h2 => by rcases hfr145 q h1 with h | h; exact (fun q h1 h2 => dis128 q h2 h1) q h h2; (have h4 := lt126 q h2; omega)
       replace ho141 : VotT F140 w138 v55 (twS2 lent) := by rw [hd2147] at ho141; exact ho141
       replace ho144 : Led F143 w138 l56 twX (raiseC ([] : List Ci) 2 0 lent) := by rw [hd3147] at ho144; exact ho144
       refine OI_end rfl ?_
       refine X_then ?_
       refine V_seq ?_
       refine V_draws (acts [9]) none_ [[0, 1, 2, 3, 4, 5, 6, 7, 8, 9, 10]] (by kernel_rfl) (by repeat first | exact sure_body (by rintro _ _ ⟨h, _⟩; exact ⟨_, h⟩) | refine sure_then ?_ | refine sure_block ?_ | refine sure_join ?_) (by kernel_rfl) ?_
       intro w158 hk157 he159 L hL160
       have hsz161 := Keep.size hk157
       replace hb1 := hb1.keep hk157 (fun f => f)
       replace hb3 := hb3.keep hk157 (fun f => f)
       replace hb36 := hb36.keep hk157 (fun f => f)
       replace hb61 := hb61.keep hk157 (fun f => f)
       replace hK0 := Keep.tr hK0 (Keep.ofNone hk157)
       replace ho114 := VotT.keep ho114 hk157 (fun _ _ f => f)
       replace ho117 := Led.keep ho117 hk157 (fun _ _ f => f)
       replace ho141 := VotT.keep ho141 hk157 (fun _ _ f => f)
       replace ho144 := Led.keep ho144 hk157 (fun _ _ f => f)
       have qhb1 := hb1
       have qhb3 := hb3
       have qhb36 := hb36
       have qhb61 := hb61
       have K162 : Keep none_ w158 w158 := Keep.refl _ _
       obtain rfl := List.mem_singleton.1 hL160
       refine GI_static [3, 4, 5, 6, 7, 8, 9, 10] [(3, pt b1), (4, pt b3), (7, pt b29), (8, pt b54), (82, .pointer (some ⟨b29, 1, none⟩))] (by kernel_rfl) ?_
       refine GI_cell 31 (.tmp 82) 1 (pt v30) (some 83) (by kernel_rfl) (by kernel_rfl) (by kernel_rfl) qhb36 (fun f => f) (m := 1) (by kernel_rfl) rfl ?_
       refine GI_static [7, 8, 9, 10] [(3, pt b1), (4, pt b3), (7, pt b29), (8, pt b54), (83, pt v30), (86, pt b29)] (by kernel_rfl) ?_
       refine GI_cell 30 (.tmp 86) 0 (pt l31) (some 87) (by kernel_rfl) (by kernel_rfl) (by kernel_rfl) qhb36 (fun f => f) (m := 1) (by kernel_rfl) rfl ?_
       refine GI_agg 23 (.tmp 3) 0 (Vt.cells x) (some 88) (by kernel_rfl) (by kernel_rfl) (by kernel_rfl) qhb1 (fun f => f) (m := 6) (by kernel_rfl) (take_all (Vt.len _)) (Vt.len _) ?_
       obtain ⟨hv1174, hv2174, hv3174⟩ := tw3 (x := x) (lent := lent) hg8 (by omega)
       refine GI_call0 { callee := (Callee.value (Operand.func 18)), args := #[(Operand.tmp 83), (Operand.tmp 87), (Operand.const (Value.int IntKind.i64 1)), (Operand.const (Value.int IntKind.i64 0)), (Operand.tmp 88)], argTypes := #[31, 30, 3, 3, 23] } 18 #[pt v30, pt l31, nt 1, nt 0, .agg (Vt.cells x).toArray] (some 89) (by kernel_rfl) (by kernel_rfl) (by kernel_rfl) (by kernel_rfl) (by kernel_rfl) (vote_spec F113 F116 v30 l31 (twS2 lent) twX (raiseC ([] : List Ci) 2 0 lent) 1 0 x _ ho114 ho117 hdis119 (by first | decide | exact Nat.lt_trans (raise_lt (m := 1) (by decide) _ _ _) (by decide) | exact Nat.lt_trans (raise_lt (raise_lt (m := 1) (by decide) _ _ _) _ _ _) (by decide) | exact Nat.lt_trans (raise_lt (raise_lt (raise_lt (m := 1) (by decide) _ _ _) _ _ _) _ _ _) (by decide) | exact Nat.lt_trans (raise_lt (raise_lt (raise_lt (raise_lt (m := 1) (by decide) _ _ _) _ _ _) _ _ _) _ _ _) (by decide))) ?_
       rintro _ w165 ⟨rfl, ⟨F167, F170, ho168, ho171, hfr169, hfr172, hdis173⟩, hk166⟩
       refine ⟨_, rfl, ?_⟩
       have hsz175 := Keep.size hk166
       replace hb1 := hb1.keep hk166 (fun hs => by rcases hs with hs | hs; (have u0 := own123 _ hs; have u1 := lt122 _ hs; omega); (have u0 := own127 _ hs; have u1 := lt126 _ hs; omega))
       replace hb3 := hb3.keep hk166 (fun hs => by rcases hs with hs | hs; (have u0 := own123 _ hs; have u1 := lt122 _ hs; omega); (have u0 := own127 _ hs; have u1 := lt126 _ hs; omega))
       replace hb36 := hb36.keep hk166 (fun hs => by rcases hs with hs | hs; (have u0 := own123 _ hs; have u1 := lt122 _ hs; omega); (have u0 := own127 _ hs; have u1 := lt126 _ hs; omega))
       replace hb61 := hb61.keep hk166 (fun hs => by rcases hs with hs | hs; (have u0 := own123 _ hs; have u1 := lt122 _ hs; omega); (have u0 := own127 _ hs; have u1 := lt126 _ hs; omega))
       replace hK0 := Keep.fresh hK0 hk166 (by intro i hi hs; first | exact hs | (rcases hs with hs | hs; (have u0 := own123 i hs; have u1 := lt122 i hs; omega); (have u0 := own127 i hs; have u1 := lt126 i hs; omega)))
       replace ho141 := VotT.keep ho141 hk166 (fun q hq hs => by rcases hs with hs | hs; exact dis151 q hq hs; exact dis152 q hq hs)
       replace ho144 := Led.keep ho144 hk166 (fun q hq hs => by rcases hs with hs | hs; exact dis155 q hq hs; exact dis156 q hq hs)
       have own177 : ∀ q, F167 q → w23.heap.size ≤ q ∧ q ≠ b1 ∧ q ≠ b3 ∧ q ≠ b29 ∧ q ≠ b54 := fun q hq => by rcases hfr169 q hq with h | h; (have h1 := own123 q h; have h2 := lt122 q h; omega); omega
       have lt176 := VotT.lt ho168
       have dis178 : ∀ q, F167 q → ¬ F140 q := fun q h1 h2 => by rcases hfr169 q h1 with h | h; exact (fun q h1 h2 => dis151 q h2 h1) q h h2; (have h4 := lt149 q h2; omega)
       have dis179 : ∀ q, F167 q → ¬ F143 q := fun q h1 h2 => by rcases hfr169 q h1 with h | h; exact (fun q h1 h2 => dis155 q h2 h1) q h h2; (have h4 := lt153 q h2; omega)
       have own181 : ∀ q, F170 q → w23.heap.size ≤ q ∧ q ≠ b1 ∧ q ≠ b3 ∧ q ≠ b29 ∧ q ≠ b54 := fun q hq => by rcases hfr172 q hq with h | h; (have h1 := own127 q h; have h2 := lt126 q h; omega); omega
       have lt180 := Led.lt ho171
       have dis182 : ∀ q, F170 q → ¬ F140 q := fun q h1 h2 => by rcases hfr172 q h1 with h | h; exact (fun q h1 h2 => dis152 q h2 h1) q h h2; (have h4 := lt149 q h2; omega)
       have dis183 : ∀ q, F170 q → ¬ F143 q := fun q h1 h2 => by rcases hfr172 q h1 with h | h; exact (fun q h1 h2 => dis156 q h2 h1) q h h2; (have h4 := lt153 q h2; omega)
       replace ho168 : VotT F167 w165 v30 (twS3 lent x) := by rw [hv2174] at ho168; exact ho168
       replace ho171 : Led F170 w165 l31 twX (raiseC (raiseC ([] : List Ci) 2 0 lent) 1 0 (capI x)) := by rw [(hv3174 _)] at ho171; exact ho171
       refine GI_pick [(3, pt b1), (4, pt b3), (7, pt b29), (8, pt b54), (89, nt (voteE twX (twS2 lent) 1 0 x))] (by kernel_rfl) ?_
       refine GI_eq [(3, pt b1), (4, pt b3), (7, pt b29), (8, pt b54), (89, nt 0)] (by rw [hv1174]) ?_
       refine GI_static [] [(3, pt b1), (4, pt b3), (7, pt b29), (8, pt b54), (9, nt 0)] (by kernel_rfl) ?_
       refine GI_end ?_
       refine X_then ?_
       refine V_seq ?_
       refine V_draws (acts [9]) none_ [[0, 1, 2, 3, 4, 5, 6, 7, 8, 9, 10]] (by kernel_rfl) (by repeat first | exact sure_body (by rintro _ _ ⟨h, _⟩; exact ⟨_, h⟩) | refine sure_then ?_ | refine sure_block ?_ | refine sure_join ?_) (by kernel_rfl) ?_
       intro w185 hk184 he186 L hL187
       have hsz188 := Keep.size hk184
       replace hb1 := hb1.keep hk184 (fun f => f)
       replace hb3 := hb3.keep hk184 (fun f => f)
       replace hb36 := hb36.keep hk184 (fun f => f)
       replace hb61 := hb61.keep hk184 (fun f => f)
       replace hK0 := Keep.tr hK0 (Keep.ofNone hk184)
       replace ho141 := VotT.keep ho141 hk184 (fun _ _ f => f)
       replace ho144 := Led.keep ho144 hk184 (fun _ _ f => f)
       replace ho168 := VotT.keep ho168 hk184 (fun _ _ f => f)
       replace ho171 := Led.keep ho171 hk184 (fun _ _ f => f)
       have qhb1 := hb1
       have qhb3 := hb3
       have qhb36 := hb36
       have qhb61 := hb61
       have K189 : Keep none_ w185 w185 := Keep.refl _ _
       obtain rfl := List.mem_singleton.1 hL187
       refine GI_static [3, 4, 5, 6, 7, 8, 9, 10] [(3, pt b1), (4, pt b3), (7, pt b29), (8, pt b54), (9, nt 0), (92, .pointer (some ⟨b29, 1, none⟩))] (by kernel_rfl) ?_
       refine GI_cell 31 (.tmp 92) 1 (pt v30) (some 93) (by kernel_rfl) (by kernel_rfl) (by kernel_rfl) qhb36 (fun f => f) (m := 1) (by kernel_rfl) rfl ?_
       refine GI_static [7, 8, 9, 10] [(3, pt b1), (4, pt b3), (7, pt b29), (8, pt b54), (9, nt 0), (93, pt v30), (96, pt b29)] (by kernel_rfl) ?_
       refine GI_cell 30 (.tmp 96) 0 (pt l31) (some 97) (by kernel_rfl) (by kernel_rfl) (by kernel_rfl) qhb36 (fun f => f) (m := 1) (by kernel_rfl) rfl ?_
       refine GI_agg 23 (.tmp 4) 0 (Vt.cells y) (some 98) (by kernel_rfl) (by kernel_rfl) (by kernel_rfl) qhb3 (fun f => f) (m := 6) (by kernel_rfl) (take_all (Vt.len _)) (Vt.len _) ?_
       obtain ⟨hv1201, hv2201, hv3201⟩ := tw4 (x := x) (y := y) (lent := lent) hg12 (by omega)
       refine GI_call0 { callee := (Callee.value (Operand.func 18)), args := #[(Operand.tmp 93), (Operand.tmp 97), (Operand.const (Value.int IntKind.i64 1)), (Operand.const (Value.int IntKind.i64 0)), (Operand.tmp 98)], argTypes := #[31, 30, 3, 3, 23] } 18 #[pt v30, pt l31, nt 1, nt 0, .agg (Vt.cells y).toArray] (some 99) (by kernel_rfl) (by kernel_rfl) (by kernel_rfl) (by kernel_rfl) (by kernel_rfl) (vote_spec F167 F170 v30 l31 (twS3 lent x) twX (raiseC (raiseC ([] : List Ci) 2 0 lent) 1 0 (capI x)) 1 0 y _ ho168 ho171 hdis173 (by first | decide | exact Nat.lt_trans (raise_lt (m := 1) (by decide) _ _ _) (by decide) | exact Nat.lt_trans (raise_lt (raise_lt (m := 1) (by decide) _ _ _) _ _ _) (by decide) | exact Nat.lt_trans (raise_lt (raise_lt (raise_lt (m := 1) (by decide) _ _ _) _ _ _) _ _ _) (by decide) | exact Nat.lt_trans (raise_lt (raise_lt (raise_lt (raise_lt (m := 1) (by decide) _ _ _) _ _ _) _ _ _) _ _ _) (by decide))) ?_
       rintro _ w192 ⟨rfl, ⟨F194, F197, ho195, ho198, hfr196, hfr199, hdis200⟩, hk193⟩
       refine ⟨_, rfl, ?_⟩
       have hsz202 := Keep.size hk193
       replace hb1 := hb1.keep hk193 (fun hs => by rcases hs with hs | hs; (have u0 := own177 _ hs; have u1 := lt176 _ hs; omega); (have u0 := own181 _ hs; have u1 := lt180 _ hs; omega))
       replace hb3 := hb3.keep hk193 (fun hs => by rcases hs with hs | hs; (have u0 := own177 _ hs; have u1 := lt176 _ hs; omega); (have u0 := own181 _ hs; have u1 := lt180 _ hs; omega))
       replace hb36 := hb36.keep hk193 (fun hs => by rcases hs with hs | hs; (have u0 := own177 _ hs; have u1 := lt176 _ hs; omega); (have u0 := own181 _ hs; have u1 := lt180 _ hs; omega))
       replace hb61 := hb61.keep hk193 (fun hs => by rcases hs with hs | hs; (have u0 := own177 _ hs; have u1 := lt176 _ hs; omega); (have u0 := own181 _ hs; have u1 := lt180 _ hs; omega))
       replace hK0 := Keep.fresh hK0 hk193 (by intro i hi hs; first | exact hs | (rcases hs with hs | hs; (have u0 := own177 i hs; have u1 := lt176 i hs; omega); (have u0 := own181 i hs; have u1 := lt180 i hs; omega)))
       replace ho141 := VotT.keep ho141 hk193 (fun q hq hs => by rcases hs with hs | hs; exact (fun q h1 h2 => dis178 q h2 h1) q hq hs; exact (fun q h1 h2 => dis182 q h2 h1) q hq hs)
       replace ho144 := Led.keep ho144 hk193 (fun q hq hs => by rcases hs with hs | hs; exact (fun q h1 h2 => dis179 q h2 h1) q hq hs; exact (fun q h1 h2 => dis183 q h2 h1) q hq hs)
       have own204 : ∀ q, F194 q → w23.heap.size ≤ q ∧ q ≠ b1 ∧ q ≠ b3 ∧ q ≠ b29 ∧ q ≠ b54 := fun q hq => by rcases hfr196 q hq with h | h; (have h1 := own177 q h; have h2 := lt176 q h; omega); omega
       have lt203 := VotT.lt ho195
       have dis205 : ∀ q, F194 q → ¬ F140 q := fun q h1 h2 => by rcases hfr196 q h1 with h | h; exact dis178 q h h2; (have h4 := lt149 q h2; omega)
       have dis206 : ∀ q, F194 q → ¬ F143 q := fun q h1 h2 => by rcases hfr196 q h1 with h | h; exact dis179 q h h2; (have h4 := lt153 q h2; omega)
       have own208 : ∀ q, F197 q → w23.heap.size ≤ q ∧ q ≠ b1 ∧ q ≠ b3 ∧ q ≠ b29 ∧ q ≠ b54 := fun q hq => by rcases hfr199 q hq with h | h; (have h1 := own181 q h; have h2 := lt180 q h; omega); omega
       have lt207 := Led.lt ho198
       have dis209 : ∀ q, F197 q → ¬ F140 q := fun q h1 h2 => by rcases hfr199 q h1 with h | h; exact dis182 q h h2; (have h4 := lt149 q h2; omega)
       have dis210 : ∀ q, F197 q → ¬ F143 q := fun q h1 h2 => by rcases hfr199 q h1 with h | h; exact dis183 q h h2; (have h4 := lt153 q h2; omega)
       replace ho195 : VotT F194 w192 v30 (twS3 lent y) := by rw [hv2201] at ho195; exact ho195
       replace ho198 : Led F197 w192 l31 twX (raiseC (raiseC (raiseC ([] : List Ci) 2 0 lent) 1 0 (capI x)) 1 0 (capI y)) := by rw [(hv3201 _)] at ho198; exact ho198
       refine GI_pick [(3, pt b1), (4, pt b3), (7, pt b29), (8, pt b54), (9, nt 0), (99, nt (voteE twX (twS3 lent x) 1 0 y))] (by kernel_rfl) ?_
       refine GI_eq [(3, pt b1), (4, pt b3), (7, pt b29), (8, pt b54), (9, nt 0), (99, nt 0)] (by rw [hv1201]) ?_
       refine GI_static [] [(3, pt b1), (4, pt b3), (7, pt b29), (8, pt b54), (9, nt 0), (10, nt 0)] (by kernel_rfl) ?_
       refine GI_end ?_
       refine X_then ?_
       refine V_seq ?_
       refine V_draws (acts [9]) none_ [[0, 1, 2, 3, 4, 5, 6, 7, 8, 9, 10]] (by kernel_rfl) (by repeat first | exact sure_body (by rintro _ _ ⟨h, _⟩; exact ⟨_, h⟩) | refine sure_then ?_ | refine sure_block ?_ | refine sure_join ?_) (by kernel_rfl) ?_
       intro w212 hk211 he213 L hL214
       have hsz215 := Keep.size hk211
       replace hb1 := hb1.keep hk211 (fun f => f)
       replace hb3 := hb3.keep hk211 (fun f => f)
       replace hb36 := hb36.keep hk211 (fun f => f)
       replace hb61 := hb61.keep hk211 (fun f => f)
       replace hK0 := Keep.tr hK0 (Keep.ofNone hk211)
       replace ho141 := VotT.keep ho141 hk211 (fun _ _ f => f)
       replace ho144 := Led.keep ho144 hk211 (fun _ _ f => f)
       replace ho195 := VotT.keep ho195 hk211 (fun _ _ f => f)
       replace ho198 := Led.keep ho198 hk211 (fun _ _ f => f)
       have qhb1 := hb1
       have qhb3 := hb3
       have qhb36 := hb36
       have qhb61 := hb61
       have K216 : Keep none_ w212 w212 := Keep.refl _ _
       obtain rfl := List.mem_singleton.1 hL214
       refine GI_static [3, 4, 5, 6, 7, 8, 9, 10] [(3, pt b1), (4, pt b3), (7, pt b29), (8, pt b54), (9, nt 0), (10, nt 0), (102, .pointer (some ⟨b54, 1, none⟩))] (by kernel_rfl) ?_
       refine GI_cell 31 (.tmp 102) 1 (pt v55) (some 103) (by kernel_rfl) (by kernel_rfl) (by kernel_rfl) qhb61 (fun f => f) (m := 1) (by kernel_rfl) rfl ?_
       refine GI_static [7, 8, 9, 10] [(3, pt b1), (4, pt b3), (7, pt b29), (8, pt b54), (9, nt 0), (10, nt 0), (103, pt v55), (106, pt b54)] (by kernel_rfl) ?_
       refine GI_cell 30 (.tmp 106) 0 (pt l56) (some 107) (by kernel_rfl) (by kernel_rfl) (by kernel_rfl) qhb61 (fun f => f) (m := 1) (by kernel_rfl) rfl ?_
       refine GI_agg 23 (.tmp 4) 0 (Vt.cells y) (some 108) (by kernel_rfl) (by kernel_rfl) (by kernel_rfl) qhb3 (fun f => f) (m := 6) (by kernel_rfl) (take_all (Vt.len _)) (Vt.len _) ?_
       obtain ⟨hv1228, hv2228, hv3228⟩ := tw3 (x := y) (lent := lent) hg12 (by omega)
       refine GI_call0 { callee := (Callee.value (Operand.func 18)), args := #[(Operand.tmp 103), (Operand.tmp 107), (Operand.const (Value.int IntKind.i64 1)), (Operand.const (Value.int IntKind.i64 0)), (Operand.tmp 108)], argTypes := #[31, 30, 3, 3, 23] } 18 #[pt v55, pt l56, nt 1, nt 0, .agg (Vt.cells y).toArray] (some 109) (by kernel_rfl) (by kernel_rfl) (by kernel_rfl) (by kernel_rfl) (by kernel_rfl) (vote_spec F140 F143 v55 l56 (twS2 lent) twX (raiseC ([] : List Ci) 2 0 lent) 1 0 y _ ho141 ho144 hdis146 (by first | decide | exact Nat.lt_trans (raise_lt (m := 1) (by decide) _ _ _) (by decide) | exact Nat.lt_trans (raise_lt (raise_lt (m := 1) (by decide) _ _ _) _ _ _) (by decide) | exact Nat.lt_trans (raise_lt (raise_lt (raise_lt (m := 1) (by decide) _ _ _) _ _ _) _ _ _) (by decide) | exact Nat.lt_trans (raise_lt (raise_lt (raise_lt (raise_lt (m := 1) (by decide) _ _ _) _ _ _) _ _ _) _ _ _) (by decide))) ?_
       rintro _ w219 ⟨rfl, ⟨F221, F224, ho222, ho225, hfr223, hfr226, hdis227⟩, hk220⟩
       refine ⟨_, rfl, ?_⟩
       have hsz229 := Keep.size hk220
       replace hb1 := hb1.keep hk220 (fun hs => by rcases hs with hs | hs; (have u0 := own150 _ hs; have u1 := lt149 _ hs; omega); (have u0 := own154 _ hs; have u1 := lt153 _ hs; omega))
       replace hb3 := hb3.keep hk220 (fun hs => by rcases hs with hs | hs; (have u0 := own150 _ hs; have u1 := lt149 _ hs; omega); (have u0 := own154 _ hs; have u1 := lt153 _ hs; omega))
       replace hb36 := hb36.keep hk220 (fun hs => by rcases hs with hs | hs; (have u0 := own150 _ hs; have u1 := lt149 _ hs; omega); (have u0 := own154 _ hs; have u1 := lt153 _ hs; omega))
       replace hb61 := hb61.keep hk220 (fun hs => by rcases hs with hs | hs; (have u0 := own150 _ hs; have u1 := lt149 _ hs; omega); (have u0 := own154 _ hs; have u1 := lt153 _ hs; omega))
       replace hK0 := Keep.fresh hK0 hk220 (by intro i hi hs; first | exact hs | (rcases hs with hs | hs; (have u0 := own150 i hs; have u1 := lt149 i hs; omega); (have u0 := own154 i hs; have u1 := lt153 i hs; omega)))
       replace ho195 := VotT.keep ho195 hk220 (fun q hq hs => by rcases hs with hs | hs; exact dis205 q hq hs; exact dis206 q hq hs)
       replace ho198 := Led.keep ho198 hk220 (fun q hq hs => by rcases hs with hs | hs; exact dis209 q hq hs; exact dis210 q hq hs)
       have own231 : ∀ q, F221 q → w48.heap.size ≤ q ∧ q ≠ b1 ∧ q ≠ b3 ∧ q ≠ b29 ∧ q ≠ b54 := fun q hq => by rcases hfr223 q hq with h | h; (have h1 := own150 q h; have h2 := lt149 q h; omega); omega
       have lt230 := VotT.lt ho222
       have dis232 : ∀ q, F221 q → ¬ F194 q := fun q h1 h2 => by rcases hfr223 q h1 with h | h; exact (fun q h1 h2 => dis205 q h2 h1) q h h2; (have h4 := lt203 q h2; omega)
       have dis233 : ∀ q, F221 q → ¬ F197 q := fun q h1 h2 => by rcases hfr223 q h1 with h | h; exact (fun q h1 h2 => dis209 q h2 h1) q h h2; (have h4 := lt207 q h2; omega)
       have own235 : ∀ q, F224 q → w48.heap.size ≤ q ∧ q ≠ b1 ∧ q ≠ b3 ∧ q ≠ b29 ∧ q ≠ b54 := fun q hq => by rcases hfr226 q hq with h | h; (have h1 := own154 q h; have h2 := lt153 q h; omega); omega
       have lt234 := Led.lt ho225
       have dis236 : ∀ q, F224 q → ¬ F194 q := fun q h1 h2 => by rcases hfr226 q h1 with h | h; exact (fun q h1 h2 => dis206 q h2 h1) q h h2; (have h4 := lt203 q h2; omega)
       have dis237 : ∀ q, F224 q → ¬ F197 q := fun q h1 h2 => by rcases hfr226 q h1 with h | h; exact (fun q h1 h2 => dis210 q h2 h1) q h h2; (have h4 := lt207 q h2; omega)
       replace ho222 : VotT F221 w219 v55 (twS3 lent y) := by rw [hv2228] at ho222; exact ho222
       replace ho225 : Led F224 w219 l56 twX (raiseC (raiseC ([] : List Ci) 2 0 lent) 1 0 (capI y)) := by rw [(hv3228 _)] at ho225; exact ho225
       refine GI_pick [(3, pt b1), (4, pt b3), (7, pt b29), (8, pt b54), (9, nt 0), (10, nt 0), (109, nt (voteE twX (twS2 lent) 1 0 y))] (by kernel_rfl) ?_
       refine GI_eq [(3, pt b1), (4, pt b3), (7, pt b29), (8, pt b54), (9, nt 0), (10, nt 0), (109, nt 0)] (by rw [hv1228]) ?_
       refine GI_static [] [(3, pt b1), (4, pt b3), (7, pt b29), (8, pt b54), (9, nt 0), (10, nt 0), (11, nt 0)] (by kernel_rfl) ?_
       refine GI_end ?_
       refine X_then ?_
       refine V_seq ?_
       refine V_region ?_
       refine OI_static 3 [(3, pt b1), (4, pt b3), (7, pt b29), (8, pt b54), (9, nt 0), (10, nt 0), (11, nt 0), (113, .pointer (some ⟨b29, 1, none⟩))] (by kernel_rfl) ?_
       refine OI_cell 31 (.tmp 113) 1 (pt v30) (some 114) (by kernel_rfl) (by kernel_rfl) hb36 (m := 1) (by kernel_rfl) rfl ?_
       refine OI_call { callee := (Callee.value (Operand.func 19)), args := #[(Operand.tmp 114), (Operand.const (Value.int IntKind.i64 1)), (Operand.const (Value.int IntKind.i64 0))], argTypes := #[31, 3, 3] } 19 #[pt v30, nt 1, nt 0] (some 115) (by kernel_rfl) (by kernel_rfl) (by kernel_rfl) (casts_spec F194 v30 (twS3 lent y) 1 0 _ ho195) ?_
       rintro _ w238 ⟨K240, capK240, rfl, hAK240, hk239, owK240⟩
       refine ⟨_, rfl, ?_⟩
       have hsz241 := Keep.size hk239
       replace hb1 := hb1.keep hk239 (fun f => f)
       replace hb3 := hb3.keep hk239 (fun f => f)
       replace hb36 := hb36.keep hk239 (fun f => f)
       replace hb61 := hb61.keep hk239 (fun f => f)
       replace hK0 := Keep.tr hK0 (Keep.ofNone hk239)
       replace ho195 := VotT.keep ho195 hk239 (fun _ _ f => f)
       replace ho198 := Led.keep ho198 hk239 (fun _ _ f => f)
       replace ho222 := VotT.keep ho222 hk239 (fun _ _ f => f)
       replace ho225 := Led.keep ho225 hk239 (fun _ _ f => f)
       rw [show vrow (twS3 lent y) 1 0 = [(0, y)] by kernel_rfl] at hAK240
       have ltK240 := SlT.lt hAK240
       have owbK240 := owK240
       refine OI_pick [(3, pt b1), (4, pt b3), (7, pt b29), (8, pt b54), (9, nt 0), (10, nt 0), (11, nt 0), (115, .tuple #[.slice K240 ((vrow (twS3 lent y) 1 0).length) capK240, .bool true])] (by kernel_rfl) ?_
       refine OI_eq [(3, pt b1), (4, pt b3), (7, pt b29), (8, pt b54), (9, nt 0), (10, nt 0), (11, nt 0), (115, .tuple #[.slice K240 1 capK240, .bool true])] (by rw [show vrow (twS3 lent y) 1 0 = [(0, y)] by kernel_rfl]; rfl) ?_
       refine OI_static 10 [(3, pt b1), (4, pt b3), (7, pt b29), (8, pt b54), (9, nt 0), (10, nt 0), (11, nt 0), (12, .slice K240 1 capK240), (13, .bool true)] (by kernel_rfl) ?_
       refine OI_end rfl ?_
       refine X_then ?_
       refine V_seq ?_
       refine V_draws (acts [11, 16, 40, 42, 44, 49]) none_ [[0, 1, 2, 3, 4, 5, 6, 7, 8, 9, 10, 11, 12, 13, 14, 15, 16, 17, 18, 19, 20, 21, 22, 23, 24, 25, 26, 27, 28, 29, 30, 31, 32, 33, 34, 35, 36, 37, 38, 39, 40, 41, 42, 43, 44, 45, 46, 47, 48, 49, 50, 51]] (by kernel_rfl) (by repeat first | exact sure_body (by rintro _ _ ⟨h, _⟩; exact ⟨_, h⟩) | refine sure_then ?_ | refine sure_block ?_ | refine sure_join ?_) (by kernel_rfl) ?_
       intro w243 hk242 he244 L hL245
       have hsz246 := Keep.size hk242
       replace hb1 := hb1.keep hk242 (fun f => f)
       replace hb3 := hb3.keep hk242 (fun f => f)
       replace hb36 := hb36.keep hk242 (fun f => f)
       replace hb61 := hb61.keep hk242 (fun f => f)
       replace hAK240 := SlT.keep0 hAK240 hk242
       replace hK0 := Keep.tr hK0 (Keep.ofNone hk242)
       replace ho195 := VotT.keep ho195 hk242 (fun _ _ f => f)
       replace ho198 := Led.keep ho198 hk242 (fun _ _ f => f)
       replace ho222 := VotT.keep ho222 hk242 (fun _ _ f => f)
       replace ho225 := Led.keep ho225 hk242 (fun _ _ f => f)
       have qhb1 := hb1
       have qhb3 := hb3
       have qhb36 := hb36
       have qhb61 := hb61
       have qhAK240 := hAK240
       have K247 : Keep none_ w243 w243 := Keep.refl _ _
       obtain rfl := List.mem_singleton.1 hL245
       refine GI_static [10, 11, 12, 13, 14, 15, 16, 17, 18, 19, 20, 21, 22, 23, 24, 25, 26, 27, 28, 29, 30, 31, 32, 33, 34, 35, 36, 37, 38, 39, 40, 41, 42, 43, 44, 45, 46, 47, 48, 49, 50, 51] [(3, pt b1), (4, pt b3), (7, pt b29), (8, pt b54), (12, .slice K240 1 capK240), (13, .bool true), (124, .bool true), (127, .pointer (some ⟨b29, 1, none⟩))] (by kernel_rfl) ?_
       refine GI_cell 31 (.tmp 127) 1 (pt v30) (some 128) (by kernel_rfl) (by kernel_rfl) (by kernel_rfl) qhb36 (fun f => f) (m := 1) (by kernel_rfl) rfl ?_
       refine GI_call { callee := (Callee.value (Operand.func 20)), args := #[(Operand.tmp 128), (Operand.const (Value.int IntKind.i64 0))], argTypes := #[31, 3] } 20 #[pt v30, nt 0] (some 129) (by kernel_rfl) (by kernel_rfl) (by kernel_rfl) (by kernel_rfl) (tally_spec F194 v30 (twS3 lent y) 0 _ (ho195).1) ?_
       rintro _ w248 ⟨rfl, hk249⟩
       have K250 := K247.tr (Keep.ofNone hk249)
       refine ⟨_, rfl, K250, ?_⟩
       have hzK250 := Keep.size K250
       have hsz251 := Keep.size hk249
       replace hb1 := hb1.keep hk249 (fun f => f)
       replace hb3 := hb3.keep hk249 (fun f => f)
       replace hb36 := hb36.keep hk249 (fun f => f)
       replace hb61 := hb61.keep hk249 (fun f => f)
       replace hAK240 := SlT.keep0 hAK240 hk249
       replace hK0 := Keep.tr hK0 (Keep.ofNone hk249)
       replace ho195 := VotT.keep ho195 hk249 (fun _ _ f => f)
       replace ho198 := Led.keep ho198 hk249 (fun _ _ f => f)
       replace ho222 := VotT.keep ho222 hk249 (fun _ _ f => f)
       replace ho225 := Led.keep ho225 hk249 (fun _ _ f => f)
       refine GI_static [15, 16, 17, 18, 19, 20, 21, 22, 23, 24, 25, 26, 27, 28, 29, 30, 31, 32, 33, 34, 35, 36, 37, 38, 39, 40, 41, 42, 43, 44, 45, 46, 47, 48, 49, 50, 51] [(3, pt b1), (4, pt b3), (7, pt b29), (12, .slice K240 1 capK240), (13, .bool true), (124, .bool true), (129, .agg (Tly.cells (tallyT (twS3 lent y) 0)).toArray), (132, .pointer (some ⟨b54, 1, none⟩))] (by kernel_rfl) ?_
       refine GI_cell 31 (.tmp 132) 1 (pt v55) (some 133) (by kernel_rfl) (by kernel_rfl) (by kernel_rfl) qhb61 (fun f => f) (m := 1) (by kernel_rfl) rfl ?_
       refine GI_call { callee := (Callee.value (Operand.func 20)), args := #[(Operand.tmp 133), (Operand.const (Value.int IntKind.i64 0))], argTypes := #[31, 3] } 20 #[pt v55, nt 0] (some 134) (by kernel_rfl) (by kernel_rfl) (by kernel_rfl) (by kernel_rfl) (tally_spec F221 v55 (twS3 lent y) 0 _ (ho222).1) ?_
       rintro _ w252 ⟨rfl, hk253⟩
       have K254 := K250.tr (Keep.ofNone hk253)
       refine ⟨_, rfl, K254, ?_⟩
       have hzK254 := Keep.size K254
       have hsz255 := Keep.size hk253
       replace hb1 := hb1.keep hk253 (fun f => f)
       replace hb3 := hb3.keep hk253 (fun f => f)
       replace hb36 := hb36.keep hk253 (fun f => f)
       replace hAK240 := SlT.keep0 hAK240 hk253
       replace hK0 := Keep.tr hK0 (Keep.ofNone hk253)
       replace ho195 := VotT.keep ho195 hk253 (fun _ _ f => f)
       replace ho198 := Led.keep ho198 hk253 (fun _ _ f => f)
       replace ho222 := VotT.keep ho222 hk253 (fun _ _ f => f)
       replace ho225 := Led.keep ho225 hk253 (fun _ _ f => f)
       refine GI_pure (some 135) ((Op.binOp BinOp.eql 43 (Operand.tmp 129) (Operand.tmp 134) 43)) (by kernel_rfl) (by kernel_rfl) (pure_eql_same (xs := Tly.cells (tallyT (twS3 lent y) 0)) (by kernel_rfl) (by kernel_rfl) (by kernel_rfl) (by kernel_rfl)) ?_
       refine GI_static [29, 30, 31, 32, 33, 34, 35, 36, 37, 38, 39, 40, 41, 42, 43, 44, 45, 46, 47, 48, 49, 50, 51] [(3, pt b1), (4, pt b3), (7, pt b29), (145, .bool true), (146, .slice K240 1 capK240)] (by kernel_rfl) ?_
       obtain ⟨b256, o256, L256, T256, rfl, hat256⟩ := SlT.open_ hAK240 (by first | omega | (simp only [List.length_map]; omega) | (simp; done) | (simp; omega))
       have hb256lt := hat256.blk.lt
       have hob257 := owK240 b256 ⟨_, rfl, rfl⟩
       have hob258 := ltK240 b256 ⟨_, rfl, rfl⟩
       obtain ⟨qL256, qT256, qhat256⟩ := SlT.openA qhAK240 (by first | omega | (simp; done) | (simp; omega))
       refine GI_pure (some 147) (.indexAddr 39 (.tmp 146) (.const (Value.int IntKind.i64 0))) (by kernel_rfl) (by kernel_rfl) (pure_idxN (b := b256) (o := o256) (len := 1) (cap := capK240) (kd := .i64) (j := 0) (E := 46) (sz := 7) (by_ := 56) (by kernel_rfl) (by kernel_rfl) (by kernel_rfl) (by omega)) ?_
       refine GI_static [31, 32, 33, 34, 35, 36, 37, 38, 39, 40, 41, 42, 43, 44, 45, 46, 47, 48, 49, 50, 51] [(3, pt b1), (4, pt b3), (7, pt b29), (145, .bool true), (148, .pointer (some ⟨b256, o256 + 0 * 7 + 1, none⟩))] (by kernel_rfl) ?_
       refine GI_agg 23 (.tmp 148) (o256 + 0 * 7 + 1) (Vt.cells y) (some 149) (by kernel_rfl) (by kernel_rfl) (by kernel_rfl) qhat256.blk (fun f => f) (m := 6) (by kernel_rfl) (At.sub qhat256 (es_at (rfl : ([(0, y)] : List (Int × Vt))[0]? = some (0, y))) (by decide) rfl) (Vt.len _) ?_
       refine GI_agg 23 (.tmp 4) 0 (Vt.cells y) (some 150) (by kernel_rfl) (by kernel_rfl) (by kernel_rfl) qhb3 (fun f => f) (m := 6) (by kernel_rfl) (take_all (Vt.len _)) (Vt.len _) ?_
       refine GI_pure (some 151) ((Op.binOp BinOp.eql 23 (Operand.tmp 149) (Operand.tmp 150) 23)) (by kernel_rfl) (by kernel_rfl) (pure_eql_same (xs := Vt.cells y) (by kernel_rfl) (by kernel_rfl) (by kernel_rfl) (by kernel_rfl)) ?_
       refine GI_static [39, 40, 41, 42, 43, 44, 45, 46, 47, 48, 49, 50, 51] [(3, pt b1), (4, pt b3), (153, .bool true), (156, pt b29)] (by kernel_rfl) ?_
       refine GI_cell 30 (.tmp 156) 0 (pt l31) (some 157) (by kernel_rfl) (by kernel_rfl) (by kernel_rfl) qhb36 (fun f => f) (m := 1) (by kernel_rfl) rfl ?_
       refine GI_call { callee := (Callee.value (Operand.func 21)), args := #[(Operand.tmp 157), (Operand.const (Value.int IntKind.i64 1))], argTypes := #[30, 3] } 21 #[pt l31, nt 1] (some 158) (by kernel_rfl) (by kernel_rfl) (by kernel_rfl) (by kernel_rfl) (locked_spec F197 l31 twX (raiseC (raiseC (raiseC ([] : List Ci) 2 0 lent) 1 0 (capI x)) 1 0 (capI y)) 1 _ ho198) ?_
       rintro _ w259 ⟨rfl, hk260⟩
       have K261 := K254.tr (Keep.ofNone hk260)
       refine ⟨_, rfl, K261, ?_⟩
       have hzK261 := Keep.size K261
       have hsz262 := Keep.size hk260
       replace hb1 := hb1.keep hk260 (fun f => f)
       replace hb3 := hb3.keep hk260 (fun f => f)
       replace hat256 := hat256.keep hk260 (fun f => f)
       replace hK0 := Keep.tr hK0 (Keep.ofNone hk260)
       replace ho195 := VotT.keep ho195 hk260 (fun _ _ f => f)
       replace ho198 := Led.keep ho198 hk260 (fun _ _ f => f)
       replace ho222 := VotT.keep ho222 hk260 (fun _ _ f => f)
       replace ho225 := Led.keep ho225 hk260 (fun _ _ f => f)
       refine GI_pick [(3, pt b1), (4, pt b3), (153, .bool true), (158, nt (lockedL (raiseC (raiseC (raiseC ([] : List Ci) 2 0 lent) 1 0 (capI x)) 1 0 (capI y)) 1))] (by kernel_rfl) ?_
       refine GI_eq [(3, pt b1), (4, pt b3), (153, .bool true), (158, nt (imax (capI x) (capI y)))] (by rw [tw_lk (by omega) (by omega) hg8 hg12]) ?_
       refine GI_agg 23 (.tmp 3) 0 (Vt.cells x) (some 159) (by kernel_rfl) (by kernel_rfl) (by kernel_rfl) qhb1 (fun f => f) (m := 6) (by kernel_rfl) (take_all (Vt.len _)) (Vt.len _) ?_
       refine GI_call { callee := (Callee.value (Operand.func 14)), args := #[(Operand.tmp 159)], argTypes := #[23] } 14 #[.agg (Vt.cells x).toArray] (some 160) (by kernel_rfl) (by kernel_rfl) (by kernel_rfl) (by kernel_rfl) (rCapital_spec x _) ?_
       rintro _ w263 ⟨rfl, hk264⟩
       have K265 := K261.tr (Keep.ofNone hk264)
       refine ⟨_, rfl, K265, ?_⟩
       have hzK265 := Keep.size K265
       have hsz266 := Keep.size hk264
       replace hb1 := hb1.keep hk264 (fun f => f)
       replace hb3 := hb3.keep hk264 (fun f => f)
       replace hat256 := hat256.keep hk264 (fun f => f)
       replace hK0 := Keep.tr hK0 (Keep.ofNone hk264)
       replace ho195 := VotT.keep ho195 hk264 (fun _ _ f => f)
       replace ho198 := Led.keep ho198 hk264 (fun _ _ f => f)
       replace ho222 := VotT.keep ho222 hk264 (fun _ _ f => f)
       replace ho225 := Led.keep ho225 hk264 (fun _ _ f => f)
       refine GI_agg 23 (.tmp 4) 0 (Vt.cells y) (some 161) (by kernel_rfl) (by kernel_rfl) (by kernel_rfl) qhb3 (fun f => f) (m := 6) (by kernel_rfl) (take_all (Vt.len _)) (Vt.len _) ?_
       refine GI_call0 { callee := (Callee.value (Operand.func 14)), args := #[(Operand.tmp 161)], argTypes := #[23] } 14 #[.agg (Vt.cells y).toArray] (some 162) (by kernel_rfl) (by kernel_rfl) (by kernel_rfl) (by kernel_rfl) (by kernel_rfl) (rCapital_spec y _) ?_
       rintro _ w267 ⟨rfl, hk268⟩
       refine ⟨_, rfl, ?_⟩
       have hsz269 := Keep.size hk268
       replace hb1 := hb1.keep hk268 (fun f => f)
       replace hb3 := hb3.keep hk268 (fun f => f)
       replace hat256 := hat256.keep hk268 (fun f => f)
       replace hK0 := Keep.tr hK0 (Keep.ofNone hk268)
       replace ho195 := VotT.keep ho195 hk268 (fun _ _ f => f)
       replace ho198 := Led.keep ho198 hk268 (fun _ _ f => f)
       replace ho222 := VotT.keep ho222 hk268 (fun _ _ f => f)
       replace ho225 := Led.keep ho225 hk268 (fun _ _ f => f)
       refine GI_static [49, 50, 51] [(166, .bool (decide (imax (capI x) (capI y) = imax (capI x) (capI y))))] (by kernel_rfl) ?_
       refine GI_eq [(166, .bool true)] (by rw [decide_eq_true (rfl : imax (capI x) (capI y) = imax (capI x) (capI y))]) ?_
       refine GI_call0 { callee := (Callee.value (Operand.func 22)), args := #[], argTypes := #[] } 22 #[] (some 167) (by kernel_rfl) (by kernel_rfl) (by kernel_rfl) (by kernel_rfl) (by kernel_rfl) (known_spec _) ?_
       rintro _ w271 ⟨rfl, hk272⟩
       refine ⟨_, rfl, ?_⟩
       have hsz273 := Keep.size hk272
       replace hb1 := hb1.keep hk272 (fun f => f)
       replace hb3 := hb3.keep hk272 (fun f => f)
       replace hat256 := hat256.keep hk272 (fun f => f)
       replace hK0 := Keep.tr hK0 (Keep.ofNone hk272)
       replace ho195 := VotT.keep ho195 hk272 (fun _ _ f => f)
       replace ho198 := Led.keep ho198 hk272 (fun _ _ f => f)
       replace ho222 := VotT.keep ho222 hk272 (fun _ _ f => f)
       replace ho225 := Led.keep ho225 hk272 (fun _ _ f => f)
       refine GI_static [] [(6, .bool true)] (by kernel_rfl) ?_
       refine GI_end ?_
       refine X_then ?_
       refine V_ret ?_
       exact X_return (.bool true) rfl ⟨rfl, hK0⟩
  ·
   refine OI_eq [(2, nt lent), (3, pt b1), (4, pt b3), (22, .bool true)] (by first | simp [hg12] | rfl) ?_
   refine OI_static 26 [(2, nt lent), (3, pt b1), (4, pt b3), (39, .bool true)] (by kernel_rfl) ?_
   refine OI_end rfl ?_
   refine X_then ?_
   refine V_true rfl ?_
   refine V_seq ?_
   refine V_region ?_
   refine OI_static 1 [(6, .bool true)] (by kernel_rfl) ?_
   refine OI_end rfl ?_
   refine X_then ?_
   refine V_ret ?_
   refine X_ret_then ?_
   exact X_return (.bool true) rfl ⟨rfl, hK0⟩
 ·
  refine OI_eq [(2, nt lent), (3, pt b1), (4, pt b3), (17, .bool true)] (by first | simp [hg8] | rfl) ?_
  refine OI_static 26 [(2, nt lent), (3, pt b1), (4, pt b3), (39, .bool true)] (by kernel_rfl) ?_
  refine OI_end rfl ?_
  refine X_then ?_
  refine V_true rfl ?_
  refine V_seq ?_
  refine V_region ?_
  refine OI_static 1 [(6, .bool true)] (by kernel_rfl) ?_
  refine OI_end rfl ?_
  refine X_then ?_
  refine V_ret ?_
  refine X_ret_then ?_
  exact X_return (.bool true) rfl ⟨rfl, hK0⟩

def ksV : List CK := [.int .i64, .bool, .int .i64, .int .i64, .int .i64, .int .i64]
theorem lift_vt (x : List Value) (h : Flat ksV x) : ∃ y : Vt, y.cells = x := by
  match x, h with
  | [], h => exact h.elim
  | [_], h => exact h.2.elim
  | [_, _], h => exact h.2.2.elim
  | [_, _, _], h => exact h.2.2.2.elim
  | [_, _, _, _], h => exact h.2.2.2.2.elim
  | [_, _, _, _, _], h => exact h.2.2.2.2.2.elim
  | [v1, v2, v3, v4, v5, v6], h =>
    obtain ⟨⟨n1, rfl, _⟩, ⟨n2, rfl⟩, ⟨n3, rfl, _⟩, ⟨n4, rfl, _⟩, ⟨n5, rfl, _⟩, ⟨n6, rfl, _⟩, _⟩ := h
    exact ⟨⟨n1, n2, n3, n4, n5, n6⟩, rfl⟩
  | _ :: _ :: _ :: _ :: _ :: _ :: _ :: _, h => exact h.2.2.2.2.2.2.elim
theorem read_vt {H : Type} {enc : TypeId × Value → H} {c : Array Value} {d : DataW H} {ps : List MemPlace} {w : World} (h : DataW.Trod enc Tryz.prog w 0 (fun _ => true) true 23 (.agg c) d ps) : ∃ x : Vt, c = x.cells.toArray := by
  obtain ⟨x, hx⟩ := lift_vt _ (read_agg (n := 4) (ks := ksV) (by kernel_rfl) h)
  exact ⟨x, by rw [hx]⟩

theorem over_VotingTwice {H : Type} {enc : TypeId × Value → H} {c0 c1 : Array Value} {d0 d1 : DataW H} {p0 p1 : List MemPlace} {w : World} (h0 : DataW.Trod enc Tryz.prog w 0 (fun _ => true) true 23 (.agg c0) d0 p0) (h1 : DataW.Trod enc Tryz.prog w 0 (fun _ => true) true 23 (.agg c1) d1 p1) (lent : Int) : Calls Tryz.prog 3 #[.agg c0, .agg c1, .int .i64 lent] w fun e w' => e = .returned (.bool true) ∧ Keep none_ w w' := by
  obtain ⟨x, rfl⟩ := read_vt h0
  obtain ⟨y, rfl⟩ := read_vt h1
  exact walk_VotingTwice x y lent w
end Go.Al

