/-
  Put together out of 12 texts: Walks of package voting: Open, Close, Tally. Walks of package voting: an account's votes in a track. Walks of package voting: an account's votes in a track: the way. Walks of package voting: how many votes; the grid of votes; raise. Walks of package voting: prior locks; votes that won. Walks of package voting: more, or less, is delegated to an account. Walks of package voting: Vote. Package voting: what Unvote, Delegate, Undelegate, Unlock do. Walks of package voting: Delegate. Walks of package voting: New; the voting with its tracks. Walks of the laws of voting: the document's answer to chapter 5. Walks of the laws of voting: all votes.
-/
import Derived.Test.YtglgnmoglbbkmaaVotingFullB3
namespace Go.Al
open Go Go.RowKit Go.Proofs
def openE (s : VS) (ref t : Int) : Int := if ¬ (0 ≤ ref ∧ ref < 12) ∨ ¬ (0 ≤ t ∧ t < 4) then 1 else if (pollAt s ref).isSome then 5 else 0
def openS (s : VS) (ref t : Int) : VS := if openE s ref t = 0 then s.setP ref.toNat ⟨t, Tly.zero, 0, 0⟩ else s
def tallyT (s : VS) (ref : Int) : Tly := match pollAt s ref with | none => Tly.zero | some q => q.t

set_option maxRecDepth 10000 in
theorem open_bad (v : Nat) (ref t : Int) (w : World) (hr : ¬ (0 ≤ ref ∧ ref < 12) ∨ ¬ (0 ≤ t ∧ t < 4)) : Calls Try.prog 8 #[pt v, .int .i64 ref, .int .i64 t] w fun e w' => e = .returned (.int .i64 1) ∧ Keep none_ w w' := by
 have hK0 : Keep none_ w w := Keep.refl _ _
 have hzhK0 := Keep.size hK0
 refine enterV Try.func8 rfl [pt v, nt ref, nt t] 33 rfl rfl rfl ?_
 refine V_pick [(0, pt v), (1, nt ref), (2, nt t)] rfl ?_
 refine V_seq ?_
 refine V_region ?_
 refine OI_static 1 [(0, pt v), (1, nt ref), (2, nt t)] (by kernel_rfl) ?_
 refine OI_end rfl ?_
 refine X_then ?_
 refine V_seq ?_
 refine V_block ?_
 refine V_seq ?_
 refine V_region ?_
 refine OI_static 4 [(0, pt v), (1, nt ref), (2, nt t), (10, .bool false), (11, nt ref)] (by kernel_rfl) ?_
 refine OI_call { callee := (Callee.value (Operand.func 21)), args := #[(Operand.tmp 11), (Operand.const (Value.int IntKind.i64 0)), (Operand.const (Value.int IntKind.i64 11))], argTypes := #[3, 3, 3] } 21 #[nt ref, nt 0, nt 11] (some 12) (by kernel_rfl) (by kernel_rfl) (by kernel_rfl) (vIn_spec ref 0 11 _) ?_
 rintro _ w ⟨rfl, rfl⟩
 refine ⟨_, rfl, ?_⟩
 refine OI_static 8 [(0, pt v), (1, nt ref), (2, nt t), (15, .bool (!(decide ((0 : Int) ≤ ref ∧ ref ≤ 11))))] (by kernel_rfl) ?_
 by_cases hg2 : (0 : Int) ≤ ref ∧ ref ≤ 11
 ·
  refine OI_eq [(0, pt v), (1, nt ref), (2, nt t), (15, .bool false)] (by first | simp [hg2] | rfl) ?_
  refine OI_static 9 [(0, pt v), (1, nt ref), (2, nt t), (15, .bool false), (16, nt t)] (by kernel_rfl) ?_
  refine OI_call { callee := (Callee.value (Operand.func 22)), args := #[(Operand.tmp 16)], argTypes := #[3] } 22 #[nt t] (some 17) (by kernel_rfl) (by kernel_rfl) (by kernel_rfl) (isTrk_spec t _) ?_
  rintro _ w ⟨rfl, rfl⟩
  refine ⟨_, rfl, ?_⟩
  refine OI_static 13 [(0, pt v), (1, nt ref), (2, nt t), (7, .bool (!(decide (0 ≤ t ∧ t ≤ 3))))] (by kernel_rfl) ?_
  refine OI_end rfl ?_
  refine X_then ?_
  refine V_not (0 ≤ t ∧ t ≤ 3) (by kernel_rfl) (fun hc4 => ?_) (fun hc4 => ?_)
  ·
   refine V_seq ?_
   refine V_region ?_
   refine OI_static 1 [(6, nt 1)] (by kernel_rfl) ?_
   refine OI_end rfl ?_
   refine X_then ?_
   refine V_ret ?_
   refine X_ret_block ?_
   refine X_ret_then ?_
   exact X_return (nt 1) rfl ⟨rfl, hK0⟩
  ·
   exact (by omega : False).elim
 ·
  refine OI_eq [(0, pt v), (1, nt ref), (2, nt t), (15, .bool true)] (by first | simp [hg2] | rfl) ?_
  refine OI_static 13 [(0, pt v), (1, nt ref), (2, nt t), (7, .bool true)] (by kernel_rfl) ?_
  refine OI_end rfl ?_
  refine X_then ?_
  refine V_true rfl ?_
  refine V_seq ?_
  refine V_region ?_
  refine OI_static 1 [(6, nt 1)] (by kernel_rfl) ?_
  refine OI_end rfl ?_
  refine X_then ?_
  refine V_ret ?_
  refine X_ret_block ?_
  refine X_ret_then ?_
  exact X_return (nt 1) rfl ⟨rfl, hK0⟩

set_option maxRecDepth 10000 in
theorem open_has (v gv gr i : Nat) (pp : List (Option Addr)) (b : Nat) (t : Int) (w : World) (hv : Blk w v (pp.map Value.pointer ++ [.pointer (some ⟨gv, 0, none⟩), .pointer (some ⟨gr, 0, none⟩)]) 66) (hlen : pp.length = 12) (hi : i < 12) (hx : pp[i]? = some (some ⟨b, 0, none⟩)) (ht : 0 ≤ t ∧ t < 4) : Calls Try.prog 8 #[.pointer (some ⟨v, 0, none⟩), .int .i64 (i : Int), .int .i64 t] w fun e w' => e = .returned (.int .i64 5) ∧ Keep none_ w w' := by
 have hK0 : Keep none_ w w := Keep.refl _ _
 have hzhK0 := Keep.size hK0
 refine enterV Try.func8 rfl [pt v, nt ((i : Nat) : Int), nt t] 33 rfl rfl rfl ?_
 refine V_pick [(0, pt v), (1, nt ((i : Nat) : Int)), (2, nt t)] rfl ?_
 refine V_seq ?_
 refine V_region ?_
 refine OI_static 1 [(0, pt v), (1, nt ((i : Nat) : Int)), (2, nt t)] (by kernel_rfl) ?_
 refine OI_end rfl ?_
 refine X_then ?_
 refine V_seq ?_
 refine V_block ?_
 refine V_seq ?_
 refine V_region ?_
 refine OI_static 4 [(0, pt v), (1, nt ((i : Nat) : Int)), (2, nt t), (10, .bool false), (11, nt ((i : Nat) : Int))] (by kernel_rfl) ?_
 refine OI_call { callee := (Callee.value (Operand.func 21)), args := #[(Operand.tmp 11), (Operand.const (Value.int IntKind.i64 0)), (Operand.const (Value.int IntKind.i64 11))], argTypes := #[3, 3, 3] } 21 #[nt ((i : Nat) : Int), nt 0, nt 11] (some 12) (by kernel_rfl) (by kernel_rfl) (by kernel_rfl) (vIn_spec ((i : Nat) : Int) 0 11 _) ?_
 rintro _ w ⟨rfl, rfl⟩
 refine ⟨_, rfl, ?_⟩
 refine OI_static 8 [(0, pt v), (1, nt ((i : Nat) : Int)), (2, nt t), (15, .bool (!(decide ((0 : Int) ≤ ((i : Nat) : Int) ∧ ((i : Nat) : Int) ≤ 11))))] (by kernel_rfl) ?_
 refine OI_eq [(0, pt v), (1, nt ((i : Nat) : Int)), (2, nt t), (15, .bool false)] (by rw [decide_eq_true (by omega : (0 : Int) ≤ ((i : Nat) : Int) ∧ ((i : Nat) : Int) ≤ 11)]; rfl) ?_
 refine OI_static 9 [(0, pt v), (1, nt ((i : Nat) : Int)), (2, nt t), (15, .bool false), (16, nt t)] (by kernel_rfl) ?_
 refine OI_call { callee := (Callee.value (Operand.func 22)), args := #[(Operand.tmp 16)], argTypes := #[3] } 22 #[nt t] (some 17) (by kernel_rfl) (by kernel_rfl) (by kernel_rfl) (isTrk_spec t _) ?_
 rintro _ w ⟨rfl, rfl⟩
 refine ⟨_, rfl, ?_⟩
 refine OI_static 13 [(0, pt v), (1, nt ((i : Nat) : Int)), (2, nt t), (7, .bool (!(decide (0 ≤ t ∧ t ≤ 3))))] (by kernel_rfl) ?_
 refine OI_end rfl ?_
 refine X_then ?_
 refine V_eq [(0, pt v), (1, nt ((i : Nat) : Int)), (2, nt t), (7, .bool false)] (by rw [decide_eq_true (by omega : 0 ≤ t ∧ t ≤ 3)]; rfl) ?_
 refine V_false rfl ?_
 refine V_seq ?_
 refine V_region ?_
 refine OI_static 2 [(0, pt v), (1, nt ((i : Nat) : Int)), (2, nt t), (21, pt v), (22, nt ((i : Nat) : Int))] (by kernel_rfl) ?_
 refine OI_call { callee := (Callee.value (Operand.func 23)), args := #[(Operand.tmp 21), (Operand.tmp 22)], argTypes := #[29, 3] } 23 #[pt v, nt ((i : Nat) : Int)] (some 23) (by kernel_rfl) (by kernel_rfl) (by kernel_rfl) (pollfn_at v gv gr i pp (some ⟨b, 0, none⟩) _ hv hlen hi hx) ?_
 rintro _ w9 ⟨rfl, hk10⟩
 refine ⟨_, rfl, ?_⟩
 have hsz11 := Keep.size hk10
 replace hv := hv.keep hk10 (fun f => f)
 replace hK0 := Keep.tr hK0 (Keep.ofNone hk10)
 refine OI_static 5 [(0, pt v), (1, nt ((i : Nat) : Int)), (2, nt t), (20, .bool true)] (by kernel_rfl) ?_
 refine OI_end rfl ?_
 refine X_then ?_
 refine V_true rfl ?_
 refine V_seq ?_
 refine V_region ?_
 refine OI_static 1 [(6, nt 5)] (by kernel_rfl) ?_
 refine OI_end rfl ?_
 refine X_then ?_
 refine V_ret ?_
 refine X_ret_block ?_
 refine X_ret_then ?_
 exact X_return (nt 5) rfl ⟨rfl, hK0⟩

set_option maxRecDepth 10000 in
theorem open_new (v gv gr i : Nat) (pp : List (Option Addr)) (t : Int) (w : World) (hv : Blk w v (pp.map Value.pointer ++ [.pointer (some ⟨gv, 0, none⟩), .pointer (some ⟨gr, 0, none⟩)]) 66) (hlen : pp.length = 12) (hi : i < 12) (hx : pp[i]? = some none) (ht : 0 ≤ t ∧ t < 4) : Calls Try.prog 8 #[.pointer (some ⟨v, 0, none⟩), .int .i64 (i : Int), .int .i64 t] w fun e w' => ∃ b : Nat, e = .returned (.int .i64 0) ∧ w.heap.size ≤ b ∧ Blk w' b (PollS.cells ⟨t, Tly.zero, 0, 0⟩) 61 ∧ Blk w' v ((pp.set i (some ⟨b, 0, none⟩)).map Value.pointer ++ [.pointer (some ⟨gv, 0, none⟩), .pointer (some ⟨gr, 0, none⟩)]) 66 ∧ Keep (only v) w w' := by
 have hvlt := hv.lt
 have hK0 : Keep (only v) w w := Keep.refl _ _
 have hzhK0 := Keep.size hK0
 refine enterV Try.func8 rfl [pt v, nt ((i : Nat) : Int), nt t] 33 rfl rfl rfl ?_
 refine V_pick [(0, pt v), (1, nt ((i : Nat) : Int)), (2, nt t)] rfl ?_
 refine V_seq ?_
 refine V_region ?_
 refine OI_static 1 [(0, pt v), (1, nt ((i : Nat) : Int)), (2, nt t)] (by kernel_rfl) ?_
 refine OI_end rfl ?_
 refine X_then ?_
 refine V_seq ?_
 refine V_block ?_
 refine V_seq ?_
 refine V_region ?_
 refine OI_static 4 [(0, pt v), (1, nt ((i : Nat) : Int)), (2, nt t), (10, .bool false), (11, nt ((i : Nat) : Int))] (by kernel_rfl) ?_
 refine OI_call { callee := (Callee.value (Operand.func 21)), args := #[(Operand.tmp 11), (Operand.const (Value.int IntKind.i64 0)), (Operand.const (Value.int IntKind.i64 11))], argTypes := #[3, 3, 3] } 21 #[nt ((i : Nat) : Int), nt 0, nt 11] (some 12) (by kernel_rfl) (by kernel_rfl) (by kernel_rfl) (vIn_spec ((i : Nat) : Int) 0 11 _) ?_
 rintro _ w ⟨rfl, rfl⟩
 refine ⟨_, rfl, ?_⟩
 refine OI_static 8 [(0, pt v), (1, nt ((i : Nat) : Int)), (2, nt t), (15, .bool (!(decide ((0 : Int) ≤ ((i : Nat) : Int) ∧ ((i : Nat) : Int) ≤ 11))))] (by kernel_rfl) ?_
 refine OI_eq [(0, pt v), (1, nt ((i : Nat) : Int)), (2, nt t), (15, .bool false)] (by rw [decide_eq_true (by omega : (0 : Int) ≤ ((i : Nat) : Int) ∧ ((i : Nat) : Int) ≤ 11)]; rfl) ?_
 refine OI_static 9 [(0, pt v), (1, nt ((i : Nat) : Int)), (2, nt t), (15, .bool false), (16, nt t)] (by kernel_rfl) ?_
 refine OI_call { callee := (Callee.value (Operand.func 22)), args := #[(Operand.tmp 16)], argTypes := #[3] } 22 #[nt t] (some 17) (by kernel_rfl) (by kernel_rfl) (by kernel_rfl) (isTrk_spec t _) ?_
 rintro _ w ⟨rfl, rfl⟩
 refine ⟨_, rfl, ?_⟩
 refine OI_static 13 [(0, pt v), (1, nt ((i : Nat) : Int)), (2, nt t), (7, .bool (!(decide (0 ≤ t ∧ t ≤ 3))))] (by kernel_rfl) ?_
 refine OI_end rfl ?_
 refine X_then ?_
 refine V_eq [(0, pt v), (1, nt ((i : Nat) : Int)), (2, nt t), (7, .bool false)] (by rw [decide_eq_true (by omega : 0 ≤ t ∧ t ≤ 3)]; rfl) ?_
 refine V_false rfl ?_
 refine V_seq ?_
 refine V_region ?_
 refine OI_static 2 [(0, pt v), (1, nt ((i : Nat) : Int)), (2, nt t), (21, pt v), (22, nt ((i : Nat) : Int))] (by kernel_rfl) ?_
 refine OI_call { callee := (Callee.value (Operand.func 23)), args := #[(Operand.tmp 21), (Operand.tmp 22)], argTypes := #[29, 3] } 23 #[pt v, nt ((i : Nat) : Int)] (some 23) (by kernel_rfl) (by kernel_rfl) (by kernel_rfl) (pollfn_at v gv gr i pp none _ hv hlen hi hx) ?_
 rintro _ w9 ⟨rfl, hk10⟩
 refine ⟨_, rfl, ?_⟩
 have hsz11 := Keep.size hk10
 replace hv := hv.keep hk10 (fun f => f)
 replace hK0 := Keep.tr hK0 (Keep.ofNone hk10)
 refine OI_static 5 [(0, pt v), (1, nt ((i : Nat) : Int)), (2, nt t), (20, .bool false)] (by kernel_rfl) ?_
 refine OI_end rfl ?_
 refine X_then ?_
 refine V_false rfl ?_
 refine V_skip ?_
 refine X_block ?_
 refine X_then ?_
 refine V_seq ?_
 refine V_region ?_
 refine OI_static 4 [(25, pt v), (26, nt ((i : Nat) : Int)), (28, .agg #[nt t, nt 0, nt 0, nt 0, nt 0, nt 0])] (by kernel_rfl) ?_
 refine OI_box 61 (.tmp 28) (.agg #[nt t, nt 0, nt 0, nt 0, nt 0, nt 0]) [nt t, nt 0, nt 0, nt 0, nt 0, nt 0] (some 29) (by kernel_rfl) (by kernel_rfl) (by kernel_rfl) ?_
 intro b12 w12 e12 hb12 k12 z12
 have hsz13 := Keep.size k12
 replace hv := hv.keep k12 (fun f => f)
 replace hK0 := Keep.tr hK0 (Keep.ofNone k12)
 have hb12lt := hb12.lt
 refine OI_static 7 [(26, nt ((i : Nat) : Int)), (29, pt b12), (31, pt v)] (by kernel_rfl) ?_
 refine OI_pure (some 32) (.indexAddr 62 (.tmp 31) (.tmp 26)) (by kernel_rfl) (pure_idxArr (b := v) (o := 0) (m := 12) (kd := .i64) (j := i) (E := 58) (sz := 1) (by kernel_rfl) (by kernel_rfl) (by kernel_rfl) (by omega)) ?_
 refine OI_set (m := 1) (kd := false) 58 (.tmp 32) (.tmp 29) (0 + i * 1) (pt b12) [pt b12] none (by kernel_rfl) (by kernel_rfl) (by kernel_rfl) hv (by kernel_rfl) (by kernel_rfl) (by kernel_rfl) (by rw [List.length_append, List.length_map, hlen]; show 0 + i * 1 + 1 ≤ 14; omega) (by simp [Value.oneCell']) ?_
 intro w14 hv_17 hk15 hz16
 replace hv_17 : Blk w14 v ((pp.set i ((some ⟨b12, 0, none⟩))).map Value.pointer ++ [.pointer (some ⟨gv, 0, none⟩), .pointer (some ⟨gr, 0, none⟩)]) 66 := (by rw [over_pp (by omega)] at hv_17; exact hv_17)
 have hsz18 := Keep.size hk15
 replace hb12 := hb12.keep hk15 (by show ¬ (_ = _); omega)
 replace hK0 := Keep.fresh hK0 hk15 (by intro i hi hs; first | exact hs | exact Or.inl hs | exact Or.inr hs | (exfalso; have hs2 : i = v := hs; omega))
 refine OI_end rfl ?_
 refine X_then ?_
 refine V_seq ?_
 refine V_region ?_
 refine OI_static 1 [(6, nt 0)] (by kernel_rfl) ?_
 refine OI_end rfl ?_
 refine X_then ?_
 refine V_ret ?_
 exact X_return (nt 0) rfl ⟨b12, rfl, by omega, hb12, hv_17, hK0⟩

/-- The voting at v, wherever its parts lie. -/
def VotE (F : Nat → Prop) (w : World) (v : Nat) (s : VS) : Prop := ∃ P, Vot F w v P s
theorem VotE.lt {F : Nat → Prop} {w : World} {v : Nat} {s : VS} (h : VotE F w v s) : ∀ q, F q → q < w.heap.size := by obtain ⟨P, h⟩ := h; exact h.lt
theorem VotE.at_ {F : Nat → Prop} {w : World} {v : Nat} {s : VS} (h : VotE F w v s) : F v := by obtain ⟨P, h⟩ := h; exact h.at_
theorem VotE.inv {F : Nat → Prop} {w : World} {v : Nat} {s : VS} (h : VotE F w v s) : s.Inv := by obtain ⟨P, h⟩ := h; exact h.inv
theorem VotE.keep {S F : Nat → Prop} {w w' : World} {v : Nat} {s : VS} (h : VotE F w v s) (k : Keep S w w') (hS : ∀ q, F q → ¬ S q) : VotE F w' v s := by obtain ⟨P, h⟩ := h; exact ⟨P, h.keep k hS⟩
theorem VotE.quiet {N : Nat} {F : Nat → Prop} {w w' : World} {v : Nat} {s : VS} (h : VotE F w v s) (k : Keep (lb N w) w w') : VotE F w' v s := by obtain ⟨P, h⟩ := h; exact ⟨P, h.quiet k⟩
theorem VotE.same {F : Nat → Prop} {w w' : World} {v : Nat} {s : VS} (h : VotE F w v s) (k : Keep none_ w w') : (∃ F', VotE F' w' v s ∧ (∀ q, F' q → F q ∨ w.heap.size ≤ q)) ∧ Keep F w w' := ⟨⟨F, h.keep k (fun _ _ f => f), fun _ h => .inl h⟩, k.ofNone⟩

theorem open_spec (F : Nat → Prop) (v : Nat) (s : VS) (ref t : Int) (w : World) (h : VotE F w v s) : Calls Try.prog 8 #[.pointer (some ⟨v, 0, none⟩), .int .i64 ref, .int .i64 t] w fun e w' => e = .returned (.int .i64 (openE s ref t)) ∧ (∃ F', VotE F' w' v (openS s ref t) ∧ (∀ q, F' q → F q ∨ w.heap.size ≤ q)) ∧ Keep F w w' := by
  by_cases hr : ¬ (0 ≤ ref ∧ ref < 12) ∨ ¬ (0 ≤ t ∧ t < 4)
  · have he : openE s ref t = 1 := by unfold openE; rw [if_pos hr]
    have hs : openS s ref t = s := by unfold openS; rw [he, if_neg (by decide)]
    rw [he, hs]
    refine (open_bad v ref t w hr).mono ?_
    rintro e w' ⟨rfl, hk⟩
    exact ⟨rfl, h.same hk⟩
  · obtain ⟨P, hP⟩ := h
    have hr2 : (0 ≤ ref ∧ ref < 12) ∧ (0 ≤ t ∧ t < 4) := by omega
    rcases hP.pollcase ref with ⟨hn, hc⟩ | ⟨i, b, q, rfl, hi, e1, e2, hs⟩
    · rcases hc with hc | ⟨i, rfl, hi, e1⟩
      · exact absurd hr2.1 hc
      have he : openE s (i : Int) t = 0 := by unfold openE; rw [if_neg hr, hn]; rfl
      have hs : openS s (i : Int) t = s.setP i ⟨t, Tly.zero, 0, 0⟩ := by unfold openS; rw [he, if_pos rfl, Int.toNat_natCast]
      rw [he, hs]
      refine (open_new v P.gv P.gr i P.pp t w hP.vblk.2 hP.vblk.1 hi e1 hr2.2).mono ?_
      rintro e w' ⟨b, rfl, hge, hb, hv, hk⟩
      obtain ⟨F', hF, hfr⟩ := hP.addPoll hi e1 hk hv hb hge
      exact ⟨rfl, ⟨F', ⟨_, hF⟩, hfr⟩, hk.mono (fun q _ hq => by rw [show q = v from hq]; exact hP.at_)⟩
    · have he : openE s (i : Int) t = 5 := by unfold openE; rw [if_neg hr, hs]; rfl
      have hs : openS s (i : Int) t = s := by unfold openS; rw [he, if_neg (by decide)]
      rw [he, hs]
      refine (open_has v P.gv P.gr i P.pp b t w hP.vblk.2 hP.vblk.1 hi e1 hr2.2).mono ?_
      rintro e w' ⟨rfl, hk⟩
      exact ⟨rfl, VotE.same ⟨P, hP⟩ hk⟩

set_option maxRecDepth 10000 in
theorem tally_out (v : Nat) (ref : Int) (w : World) (hr : ¬ (0 ≤ ref ∧ ref < 12)) : Calls Try.prog 13 #[.pointer (some ⟨v, 0, none⟩), .int .i64 ref] w fun e w' => e = .returned (.agg (Tly.cells Tly.zero).toArray) ∧ Keep none_ w w' := by
 have hK0 : Keep none_ w w := Keep.refl _ _
 have hzhK0 := Keep.size hK0
 refine enterM Try.func13 rfl [pt v, nt ref] 16 rfl rfl rfl ?_
 refine V_pick [(0, pt v), (1, nt ref)] rfl ?_
 refine V_seq ?_
 refine V_region ?_
 refine OI_alloc 43 (.agg #[nt 0, nt 0, nt 0]) [nt 0, nt 0, nt 0] (some 4) (by kernel_rfl) (by kernel_rfl) (by kernel_rfl) ?_
 intro b1 w1 e1 hb1 k1 z1
 have hsz2 := Keep.size k1
 replace hK0 := Keep.tr hK0 (Keep.ofNone k1)
 have hb1lt := hb1.lt
 refine OI_end rfl ?_
 refine X_then ?_
 refine V_seq ?_
 refine V_region ?_
 refine OI_static 2 [(4, pt b1), (6, pt v), (7, nt ref)] (by kernel_rfl) ?_
 refine OI_call { callee := (Callee.value (Operand.func 23)), args := #[(Operand.tmp 6), (Operand.tmp 7)], argTypes := #[29, 3] } 23 #[pt v, nt ref] (some 8) (by kernel_rfl) (by kernel_rfl) (by kernel_rfl) (pollfn_out v ref _ hr) ?_
 rintro _ w3 ⟨rfl, hk4⟩
 refine ⟨_, rfl, ?_⟩
 have hsz5 := Keep.size hk4
 replace hb1 := hb1.keep hk4 (fun f => f)
 replace hK0 := Keep.tr hK0 (Keep.ofNone hk4)
 refine OI_static 4 [(4, pt b1), (5, .pointer none)] (by kernel_rfl) ?_
 refine OI_end rfl ?_
 refine X_then ?_
 refine V_seq ?_
 refine V_seq ?_
 refine V_region ?_
 refine OI_static 2 [(4, pt b1), (5, .pointer none), (10, .bool true)] (by kernel_rfl) ?_
 refine OI_end rfl ?_
 refine X_then ?_
 refine V_true rfl ?_
 refine V_seq ?_
 refine V_region ?_
 refine OI_static 1 [(4, pt b1), (11, .agg #[nt 0, nt 0, nt 0])] (by kernel_rfl) ?_
 refine OI_set (m := 3) (kd := true) 43 (.tmp 4) (.tmp 11) 0 (.agg #[nt 0, nt 0, nt 0]) [nt 0, nt 0, nt 0] none (by kernel_rfl) (by kernel_rfl) (by kernel_rfl) hb1 (by kernel_rfl) (by kernel_rfl) (by kernel_rfl) (Nat.le_of_ble_eq_true (by kernel_rfl)) (by simp [Value.oneCell']) ?_
 intro w6 hb1_9 hk7 hz8
 replace hb1_9 : Blk w6 b1 [nt 0, nt 0, nt 0] 43 := hb1_9
 have hsz10 := Keep.size hk7
 replace hK0 := Keep.fresh hK0 hk7 (by intro i hi hs; first | exact hs | exact Or.inl hs | exact Or.inr hs | (exfalso; have hs2 : i = b1 := hs; omega))
 refine OI_end rfl ?_
 refine X_then ?_
 refine V_ret ?_
 refine X_ret_then ?_
 exact leave0 (.agg [nt 0, nt 0, nt 0].toArray) (.inl rfl) (res_agg1 (m := 3) rfl rfl (by kernel_rfl) hb1_9 rfl) ⟨rfl, hK0⟩

set_option maxRecDepth 10000 in
theorem tally_none (v gv gr i : Nat) (pp : List (Option Addr)) (w : World) (hv : Blk w v (pp.map Value.pointer ++ [.pointer (some ⟨gv, 0, none⟩), .pointer (some ⟨gr, 0, none⟩)]) 66) (hlen : pp.length = 12) (hi : i < 12) (hx : pp[i]? = some none) : Calls Try.prog 13 #[.pointer (some ⟨v, 0, none⟩), .int .i64 (i : Int)] w fun e w' => e = .returned (.agg (Tly.cells Tly.zero).toArray) ∧ Keep none_ w w' := by
 have hvlt := hv.lt
 have hK0 : Keep none_ w w := Keep.refl _ _
 have hzhK0 := Keep.size hK0
 refine enterM Try.func13 rfl [pt v, nt ((i : Nat) : Int)] 16 rfl rfl rfl ?_
 refine V_pick [(0, pt v), (1, nt ((i : Nat) : Int))] rfl ?_
 refine V_seq ?_
 refine V_region ?_
 refine OI_alloc 43 (.agg #[nt 0, nt 0, nt 0]) [nt 0, nt 0, nt 0] (some 4) (by kernel_rfl) (by kernel_rfl) (by kernel_rfl) ?_
 intro b1 w1 e1 hb1 k1 z1
 have hsz2 := Keep.size k1
 replace hv := hv.keep k1 (fun f => f)
 replace hK0 := Keep.tr hK0 (Keep.ofNone k1)
 have hb1lt := hb1.lt
 refine OI_end rfl ?_
 refine X_then ?_
 refine V_seq ?_
 refine V_region ?_
 refine OI_static 2 [(4, pt b1), (6, pt v), (7, nt ((i : Nat) : Int))] (by kernel_rfl) ?_
 refine OI_call { callee := (Callee.value (Operand.func 23)), args := #[(Operand.tmp 6), (Operand.tmp 7)], argTypes := #[29, 3] } 23 #[pt v, nt ((i : Nat) : Int)] (some 8) (by kernel_rfl) (by kernel_rfl) (by kernel_rfl) (pollfn_at v gv gr i pp none _ hv hlen hi hx) ?_
 rintro _ w3 ⟨rfl, hk4⟩
 refine ⟨_, rfl, ?_⟩
 have hsz5 := Keep.size hk4
 replace hv := hv.keep hk4 (fun f => f)
 replace hb1 := hb1.keep hk4 (fun f => f)
 replace hK0 := Keep.tr hK0 (Keep.ofNone hk4)
 refine OI_static 4 [(4, pt b1), (5, .pointer none)] (by kernel_rfl) ?_
 refine OI_end rfl ?_
 refine X_then ?_
 refine V_seq ?_
 refine V_seq ?_
 refine V_region ?_
 refine OI_static 2 [(4, pt b1), (5, .pointer none), (10, .bool true)] (by kernel_rfl) ?_
 refine OI_end rfl ?_
 refine X_then ?_
 refine V_true rfl ?_
 refine V_seq ?_
 refine V_region ?_
 refine OI_static 1 [(4, pt b1), (11, .agg #[nt 0, nt 0, nt 0])] (by kernel_rfl) ?_
 refine OI_set (m := 3) (kd := true) 43 (.tmp 4) (.tmp 11) 0 (.agg #[nt 0, nt 0, nt 0]) [nt 0, nt 0, nt 0] none (by kernel_rfl) (by kernel_rfl) (by kernel_rfl) hb1 (by kernel_rfl) (by kernel_rfl) (by kernel_rfl) (Nat.le_of_ble_eq_true (by kernel_rfl)) (by simp [Value.oneCell']) ?_
 intro w6 hb1_9 hk7 hz8
 replace hb1_9 : Blk w6 b1 [nt 0, nt 0, nt 0] 43 := hb1_9
 have hsz10 := Keep.size hk7
 replace hv := hv.keep hk7 (by show ¬ (_ = _); omega)
 replace hK0 := Keep.fresh hK0 hk7 (by intro i hi hs; first | exact hs | exact Or.inl hs | exact Or.inr hs | (exfalso; have hs2 : i = b1 := hs; omega))
 refine OI_end rfl ?_
 refine X_then ?_
 refine V_ret ?_
 refine X_ret_then ?_
 exact leave0 (.agg [nt 0, nt 0, nt 0].toArray) (.inl rfl) (res_agg1 (m := 3) rfl rfl (by kernel_rfl) hb1_9 rfl) ⟨rfl, hK0⟩

set_option maxRecDepth 10000 in
theorem tally_some (v gv gr i : Nat) (pp : List (Option Addr)) (b : Nat) (q : PollS) (w : World) (hv : Blk w v (pp.map Value.pointer ++ [.pointer (some ⟨gv, 0, none⟩), .pointer (some ⟨gr, 0, none⟩)]) 66) (hlen : pp.length = 12) (hi : i < 12) (hx : pp[i]? = some (some ⟨b, 0, none⟩)) (hb : Blk w b q.cells 61) : Calls Try.prog 13 #[.pointer (some ⟨v, 0, none⟩), .int .i64 (i : Int)] w fun e w' => e = .returned (.agg (Tly.cells q.t).toArray) ∧ Keep none_ w w' := by
 have hvlt := hv.lt
 have hblt := hb.lt
 have hK0 : Keep none_ w w := Keep.refl _ _
 have hzhK0 := Keep.size hK0
 refine enterM Try.func13 rfl [pt v, nt ((i : Nat) : Int)] 16 rfl rfl rfl ?_
 refine V_pick [(0, pt v), (1, nt ((i : Nat) : Int))] rfl ?_
 refine V_seq ?_
 refine V_region ?_
 refine OI_alloc 43 (.agg #[nt 0, nt 0, nt 0]) [nt 0, nt 0, nt 0] (some 4) (by kernel_rfl) (by kernel_rfl) (by kernel_rfl) ?_
 intro b1 w1 e1 hb1 k1 z1
 have hsz2 := Keep.size k1
 replace hv := hv.keep k1 (fun f => f)
 replace hb := hb.keep k1 (fun f => f)
 replace hK0 := Keep.tr hK0 (Keep.ofNone k1)
 have hb1lt := hb1.lt
 refine OI_end rfl ?_
 refine X_then ?_
 refine V_seq ?_
 refine V_region ?_
 refine OI_static 2 [(4, pt b1), (6, pt v), (7, nt ((i : Nat) : Int))] (by kernel_rfl) ?_
 refine OI_call { callee := (Callee.value (Operand.func 23)), args := #[(Operand.tmp 6), (Operand.tmp 7)], argTypes := #[29, 3] } 23 #[pt v, nt ((i : Nat) : Int)] (some 8) (by kernel_rfl) (by kernel_rfl) (by kernel_rfl) (pollfn_at v gv gr i pp (some ⟨b, 0, none⟩) _ hv hlen hi hx) ?_
 rintro _ w3 ⟨rfl, hk4⟩
 refine ⟨_, rfl, ?_⟩
 have hsz5 := Keep.size hk4
 replace hv := hv.keep hk4 (fun f => f)
 replace hb := hb.keep hk4 (fun f => f)
 replace hb1 := hb1.keep hk4 (fun f => f)
 replace hK0 := Keep.tr hK0 (Keep.ofNone hk4)
 refine OI_static 4 [(4, pt b1), (5, pt b)] (by kernel_rfl) ?_
 refine OI_end rfl ?_
 refine X_then ?_
 refine V_seq ?_
 refine V_seq ?_
 refine V_region ?_
 refine OI_static 2 [(4, pt b1), (5, pt b), (10, .bool false)] (by kernel_rfl) ?_
 refine OI_end rfl ?_
 refine X_then ?_
 refine V_false rfl ?_
 refine V_skip ?_
 refine X_then ?_
 refine V_seq ?_
 refine V_region ?_
 refine OI_static 3 [(4, pt b1), (14, .pointer (some ⟨b, 1, none⟩))] (by kernel_rfl) ?_
 refine OI_agg 43 (.tmp 14) 1 [nt q.t.a, nt q.t.n, nt q.t.s] (some 15) (by kernel_rfl) (by kernel_rfl) hb (m := 3) (by kernel_rfl) rfl rfl ?_
 refine OI_set (m := 3) (kd := true) 43 (.tmp 4) (.tmp 15) 0 (.agg #[nt q.t.a, nt q.t.n, nt q.t.s]) [nt q.t.a, nt q.t.n, nt q.t.s] none (by kernel_rfl) (by kernel_rfl) (by kernel_rfl) hb1 (by kernel_rfl) (by kernel_rfl) (by kernel_rfl) (Nat.le_of_ble_eq_true (by kernel_rfl)) (by simp [Value.oneCell']) ?_
 intro w6 hb1_9 hk7 hz8
 replace hb1_9 : Blk w6 b1 [nt q.t.a, nt q.t.n, nt q.t.s] 43 := hb1_9
 have hsz10 := Keep.size hk7
 replace hv := hv.keep hk7 (by show ¬ (_ = _); omega)
 replace hb := hb.keep hk7 (by show ¬ (_ = _); omega)
 replace hK0 := Keep.fresh hK0 hk7 (by intro i hi hs; first | exact hs | exact Or.inl hs | exact Or.inr hs | (exfalso; have hs2 : i = b1 := hs; omega))
 refine OI_end rfl ?_
 refine X_then ?_
 refine V_ret ?_
 exact leave0 (.agg [nt q.t.a, nt q.t.n, nt q.t.s].toArray) (.inl rfl) (res_agg1 (m := 3) rfl rfl (by kernel_rfl) hb1_9 rfl) ⟨rfl, hK0⟩

theorem tally_spec (F : Nat → Prop) (v : Nat) (s : VS) (ref : Int) (w : World) (h : VotE F w v s) : Calls Try.prog 13 #[.pointer (some ⟨v, 0, none⟩), .int .i64 ref] w fun e w' => e = .returned (.agg (Tly.cells (tallyT s ref)).toArray) ∧ Keep none_ w w' := by
  obtain ⟨P, hP⟩ := h
  rcases hP.pollcase ref with ⟨hn, hc⟩ | ⟨i, b, q, rfl, hi, e1, e2, hs⟩
  · rw [show tallyT s ref = Tly.zero by unfold tallyT; rw [hn]]
    rcases hc with hc | ⟨i, rfl, hi, e1⟩
    · exact tally_out v ref w hc
    · exact tally_none v P.gv P.gr i P.pp w hP.vblk.2 hP.vblk.1 hi e1
  · rw [show tallyT s (i : Int) = q.t by unfold tallyT; rw [hs]]
    exact tally_some v P.gv P.gr i P.pp b q w hP.vblk.2 hP.vblk.1 hi e1 (hP.pollB e1 e2).1

theorem Vot.recN {F : Nat → Prop} {w : World} {v : Nat} {P : VP} {s : VS} (h : Vot F w v P s) {a t : Int} {q : Nat} (e : GR.getC a t P.rs = some (some ⟨q, 0, none⟩)) (hd : (s.rc a t).d = none) : F q ∧ Blk w q (RecS.cells none (s.rc a t)) 76 := by
  obtain ⟨hF, (⟨_, h⟩ | ⟨d, b, h1, _⟩)⟩ := h.recX e
  · exact ⟨hF, h⟩
  · rw [hd] at h1; cases h1
theorem Vot.recD {F : Nat → Prop} {w : World} {v : Nat} {P : VP} {s : VS} (h : Vot F w v P s) {a t : Int} {q : Nat} {d : DelS} (e : GR.getC a t P.rs = some (some ⟨q, 0, none⟩)) (hd : (s.rc a t).d = some d) : ∃ b, F q ∧ F b ∧ Blk w q (RecS.cells (some ⟨b, 0, none⟩) (s.rc a t)) 76 ∧ Blk w b d.cells 89 := by
  obtain ⟨hF, (⟨h1, _⟩ | ⟨d', b, h1, h2, h3, h4⟩)⟩ := h.recX e
  · rw [hd] at h1; cases h1
  · rw [hd] at h1; cases h1; exact ⟨b, hF, h4, h2, h3⟩
end Go.Al


namespace Go.Al
open Go Go.RowKit Go.Proofs
/-! ### An account's votes in a track -/
def trk (s : VS) (ref : Int) : Int := match s.ps[ref.toNat]? with | some (some q) => q.track | _ => -1
def vrow (s : VS) (a t : Int) : List (Int × Vt) := (GV.rowL a s.cs).filter (fun p => trk s p.1 == t)
def vtake (s : VS) (a t : Int) (k : Nat) : List (Int × Vt) := ((GV.rowL a s.cs).take k).filter (fun p => trk s p.1 == t)
theorem vtake_all (s : VS) (a t : Int) : vtake s a t (GV.rowL a s.cs).length = vrow s a t := by unfold vtake vrow; rw [List.take_length]
theorem vtake_step {s : VS} {a t : Int} {k : Nat} {c : Int × Vt} (h : (GV.rowL a s.cs)[k]? = some c) : vtake s a t (k + 1) = if trk s c.1 = t then vtake s a t k ++ [c] else vtake s a t k := by
  have := GV.fm_step (fun p : Int × Vt => trk s p.1 == t) id h
  simpa [vtake] using this
theorem vtake_at {s : VS} {a t : Int} {k : Nat} {c : Int × Vt} (h : (GV.rowL a s.cs)[k]? = some c) (hc : trk s c.1 = t) : (vrow s a t)[(vtake s a t k).length]? = some c ∧ (vtake s a t k).length < (vrow s a t).length := by
  have := GV.fm_at (fun p : Int × Vt => trk s p.1 == t) id h (by simp [hc])
  simpa [vtake, vrow] using this
theorem rowL_mem {a : Int} {cs : List GV.Ci} {k : Nat} {c : Int × Vt} (h : (GV.rowL a cs)[k]? = some c) : ∃ x ∈ cs, x.a = a ∧ x.b = c.1 ∧ x.v = c.2 := by
  have hm := List.mem_of_getElem? h
  unfold GV.rowL at hm
  obtain ⟨x, hx, rfl⟩ := List.mem_map.1 hm
  obtain ⟨h1, h2⟩ := List.mem_filter.1 hx
  exact ⟨x, h1, by simpa using h2, rfl, rfl⟩
theorem vrow_len (s : VS) (a t : Int) : (vrow s a t).length ≤ s.cs.length := by
  unfold vrow GV.rowL
  refine Nat.le_trans (List.length_filter_le _ _) ?_
  rw [List.length_map]
  exact List.length_filter_le _ _
/-- What a way over an account's votes needs of the world while it goes on. -/
structure VtOk (bv bw bt v gv gr : Nat) (pp : List (Option Addr)) (a t : Int) (s : VS) (A : Option Addr) (cap : Nat) (W : World) : Prop where
  hv : Blk W bv [.pointer (some ⟨v, 0, none⟩)] 29
  hw : Blk W bw [.int .i64 a] 3
  ht : Blk W bt [.int .i64 t] 3
  blk : Blk W v (pp.map Value.pointer ++ [.pointer (some ⟨gv, 0, none⟩), .pointer (some ⟨gr, 0, none⟩)]) 66
  len : pp.length = 12
  polls : ∀ c ∈ s.cs, ∃ (i b : Nat) (q : PollS), c.b = (i : Int) ∧ i < 12 ∧ pp[i]? = some (some ⟨b, 0, none⟩) ∧ Blk W b q.cells 61 ∧ q.track = trk s c.b
  sl : SlT W 8 GV.Ci.cells A cap s.cs
theorem VtOk.quiet {N bv bw bt v gv gr : Nat} {pp : List (Option Addr)} {a t : Int} {s : VS} {A : Option Addr} {cap : Nat} {W W' : World} (h : VtOk bv bw bt v gv gr pp a t s A cap W) (k : Keep (lb N W) W W') : VtOk bv bw bt v gv gr pp a t s A cap W' :=
  ⟨h.hv.quiet k, h.hw.quiet k, h.ht.quiet k, h.blk.quiet k, h.len, fun c hc => by
    obtain ⟨i, b, q, h1, h2, h3, h4, h5⟩ := h.polls c hc
    exact ⟨i, b, q, h1, h2, h3, h4.quiet k, h5⟩, h.sl.quiet k⟩
/-- The voting at v; its votes lie in the array at A. -/
def VotA (A : Option Addr) (cap : Nat) (F : Nat → Prop) (w : World) (v : Nat) (P : VP) (s : VS) : Prop := ∃ F1 F2 M, VotX F1 F2 M w v P s ∧ GV.GrAt w P.gv A cap s.cs ∧ (∀ q, inA A q → F1 q) ∧ (∀ q, F1 q → F q) ∧ (∀ q, F2 q → F q) ∧ (∀ q, M q → F q) ∧ (∀ q, F q → q < w.heap.size)
theorem Vot.arr {F : Nat → Prop} {w : World} {v : Nat} {P : VP} {s : VS} (h : Vot F w v P s) : ∃ A cap, VotA A cap F w v P s := by
  obtain ⟨F1, F2, M, h, h1, h2, h3, h4⟩ := h
  obtain ⟨_, _, _, _, A, cap, h5, h6⟩ := h.gv
  exact ⟨A, cap, F1, F2, M, h, h5, h6, h1, h2, h3, h4⟩
section
variable {A : Option Addr} {cap : Nat} {F S : Nat → Prop} {w w' : World} {v N : Nat} {P : VP} {s : VS}
theorem VotA.vot (h : VotA A cap F w v P s) : Vot F w v P s := by
  obtain ⟨F1, F2, M, h, _, _, h1, h2, h3, h4⟩ := h
  exact ⟨F1, F2, M, h, h1, h2, h3, h4⟩
theorem VotA.lt (h : VotA A cap F w v P s) : ∀ q, F q → q < w.heap.size := h.vot.lt
theorem VotA.at_ (h : VotA A cap F w v P s) : F v := h.vot.at_
theorem VotA.keep (h : VotA A cap F w v P s) (k : Keep S w w') (hS : ∀ q, F q → ¬ S q) : VotA A cap F w' v P s := by
  obtain ⟨F1, F2, M, h, hg, hA, h1, h2, h3, h4⟩ := h
  exact ⟨F1, F2, M, h.keepM S k (fun q hq => hS q (h3 q hq)) h.inv (fun _ h => h) (fun q hq => Nat.lt_of_lt_of_le (h.lt q hq) k.size) (h.gv.keep k (fun q hq => hS q (h1 q hq))) (h.gr.keep k (fun q hq => hS q (h2 q hq))) h.d12 h.d1 h.d2,
    ⟨hg.blk.keep k (hS _ (h1 _ h.gv.at_)), hg.sl.keep k (fun q hq => hS _ (h1 _ (hA q hq))), hg.off⟩, hA, h1, h2, h3, fun q hq => Nat.lt_of_lt_of_le (h4 q hq) k.size⟩
theorem VotA.quiet (h : VotA A cap F w v P s) (k : Keep (lb N w) w w') : VotA A cap F w' v P s := by
  obtain ⟨F1, F2, M, h, hg, hA, h1, h2, h3, h4⟩ := h
  refine ⟨F1, F2, M, ⟨h.inv, h.gv.quiet k, h.gr.quiet k, h.mv, fun q hq => Nat.lt_of_lt_of_le (h.lt q hq) k.size, h.d12, h.d1, h.d2, h.len, h.blk.quiet k, fun i hi => ?_, h.pinj, h.keys, fun a t => ?_, h.rinj⟩, hg.quiet k, hA, h1, h2, h3, fun q hq => Nat.lt_of_lt_of_le (h4 q hq) k.size⟩
  · rcases h.polls i hi with h | ⟨b, p, e1, e2, hb, hm⟩
    · exact .inl h
    · exact .inr ⟨b, p, e1, e2, hb.quiet k, hm⟩
  · rcases h.recs a t with h | ⟨q, e, hr, hm⟩
    · exact .inl h
    · exact .inr ⟨q, e, hr.quiet k, hm⟩
theorem VotA.setPoll (h : VotA A cap F w v P s) {i b : Nat} {p p' : PollS} (e : P.pp[i]? = some (some ⟨b, 0, none⟩)) (e2 : s.ps[i]? = some (some p)) (k : Keep (only b) w w') (hb' : Blk w' b p'.cells 61) : VotA A cap F w' v P (s.setP i p') := by
  obtain ⟨F1, F2, M, h, hg, hA, h1, h2, h3, h4⟩ := h
  obtain ⟨hX, hM⟩ := h.setPoll e e2 k hb'
  have hn : ∀ q, F1 q → ¬ only b q := fun q hq hs => h.d1 q hq (by rw [show q = b from hs]; exact hM)
  exact ⟨F1, F2, M, hX, ⟨hg.blk.keep k (hn _ h.gv.at_), hg.sl.keep k (fun q hq => hn q (hA q hq)), hg.off⟩, hA, h1, h2, h3, fun q hq => Nat.lt_of_lt_of_le (h4 q hq) k.size⟩
theorem VotA.ok (h : VotA A cap F w v P s) {s0 : VS} (hcs : s.cs = s0.cs) (htr : ∀ r, trk s r = trk s0 r) {bv bw bt : Nat} {a t : Int} (hv : Blk w bv [.pointer (some ⟨v, 0, none⟩)] 29) (hw : Blk w bw [.int .i64 a] 3) (ht : Blk w bt [.int .i64 t] 3) : VtOk bv bw bt v P.gv P.gr P.pp a t s0 A cap w := by
  obtain ⟨F1, F2, M, h, hg, _⟩ := h
  refine ⟨hv, hw, ht, h.blk, h.len, fun c hc => ?_, by rw [← hcs]; exact hg.sl⟩
  obtain ⟨g1, g2, g3, q0, g4⟩ := h.inv.votes c (by rw [hcs]; exact hc)
  obtain ⟨i, hi⟩ : ∃ i : Nat, c.b = i := ⟨c.b.toNat, by omega⟩
  rcases h.polls i (by omega) with ⟨e1, e2⟩ | ⟨b, q, e1, e2, hb, _⟩
  · rw [hi, Int.toNat_natCast, e2] at g4; cases g4
  · refine ⟨i, b, q, hi, by omega, e1, hb, ?_⟩
    rw [← htr, hi]; unfold trk; rw [Int.toNat_natCast, e2]
theorem VotA.grat (h : VotA A cap F w v P s) : GV.GrAt w P.gv A cap s.cs := by
  obtain ⟨F1, F2, M, h, hg, _⟩ := h; exact hg
theorem Vot.cslen (h : Vot F w v P s) : s.cs.length ≤ 120 := by
  obtain ⟨F1, F2, M, h, _⟩ := h
  exact GV.len120 h.gv.1 (fun c hc => by obtain ⟨g1, g2, _⟩ := h.inv.votes c hc; exact ⟨g1, g2⟩)
theorem VotA.lenA (h : VotA A cap F w v P s) : s.cs.length ≤ 120 := h.vot.cslen
end
end Go.Al


namespace Go.Al
open Go Go.RowKit Go.Proofs
set_option maxRecDepth 10000 in
theorem votes1_iter (bv bw bt v gv gr cap : Nat) (pp : List (Option Addr)) (A : Option Addr) (s : VS) (a t : Int) (hn : s.cs.length ≤ 1000000) : Iter2 Try.prog 56 #[.pointer (some ⟨bv, 0, none⟩), .pointer (some ⟨bw, 0, none⟩), .pointer (some ⟨bt, 0, none⟩)] (vrow s a t).length (GV.enc2 (vrow s a t)) (fun W => GV.GrAt W gv A cap s.cs ∧ VtOk bv bw bt v gv gr pp a t s A cap W) (VtOk bv bw bt v gv gr pp a t s A cap) := by
 intro l J Jx w hPre hJ hJx hY hOk h0
 obtain ⟨hgA, hok0⟩ := hPre
 have hbv := hok0.hv
 have hbw := hok0.hw
 have hbt := hok0.ht
 have hvb := hok0.blk
 have hlen := hok0.len
 have hbwlt := hbw.lt
 have hbtlt := hbt.lt
 have hvlt := hvb.lt
 have hbvlt := hbv.lt
 show Calls Try.prog 56 #[.func (.yield l) #[] #[], .pointer (some ⟨bv, 0, none⟩), .pointer (some ⟨bw, 0, none⟩), .pointer (some ⟨bt, 0, none⟩)] w _
 have hK0 : Keep none_ w w := Keep.refl _ _
 have hzhK0 := Keep.size hK0
 refine enterM Try.func56 rfl [.func (.yield l) #[] #[], pt bv, pt bw, pt bt] 32 rfl rfl rfl ?_
 refine V_pick [(0, .func (.yield l) #[] #[]), (1, pt bv), (2, pt bw), (3, pt bt)] rfl ?_
 refine V_seq ?_
 refine V_region ?_
 refine OI_box 132 (.tmp 0) (.func (.yield l) #[] #[]) [.func (.yield l) #[] #[]] (some 4) (by kernel_rfl) (by kernel_rfl) (by kernel_rfl) ?_
 intro b1 w1 e1 hb1 k1 z1
 have hsz2 := Keep.size k1
 replace hbv := hbv.keep k1 (fun f => f)
 replace hbw := hbw.keep k1 (fun f => f)
 replace hbt := hbt.keep k1 (fun f => f)
 replace hvb := hvb.keep k1 (fun f => f)
 replace hK0 := Keep.tr hK0 (Keep.ofNone k1)
 have hb1lt := hb1.lt
 refine OI_end rfl ?_
 refine X_then ?_
 refine V_seq ?_
 refine V_seq ?_
 refine V_region ?_
 refine OI_cell 29 (.tmp 1) 0 (pt v) (some 7) (by kernel_rfl) (by kernel_rfl) hbv (m := 1) (by kernel_rfl) rfl ?_
 refine OI_static 2 [(1, pt bv), (2, pt bw), (3, pt bt), (4, pt b1), (8, .bool false)] (by kernel_rfl) ?_
 refine OI_end rfl ?_
 refine X_then ?_
 refine V_false rfl ?_
 refine V_skip ?_
 refine X_then ?_
 refine V_seq ?_
 refine V_draws (acts [5]) none_ [[0, 1, 2, 3, 4, 5]] (by kernel_rfl) (by repeat first | exact (by first | exact sure_postM | exact sure_rQ2 | exact sure_no | exact sure_body (by rintro _ _ ⟨h, _⟩; exact ⟨_, h⟩)) | refine sure_then ?_ | refine sure_block ?_ | refine sure_join ?_) (by kernel_rfl) ?_
 intro w4 hk3 he5 L hL6
 have hsz7 := Keep.size hk3
 replace hbv := hbv.keep hk3 (fun f => f)
 replace hbw := hbw.keep hk3 (fun f => f)
 replace hbt := hbt.keep hk3 (fun f => f)
 replace hvb := hvb.keep hk3 (fun f => f)
 replace hb1 := hb1.keep hk3 (fun f => f)
 replace hK0 := Keep.tr hK0 (Keep.ofNone hk3)
 have qhbv := hbv
 have qhbw := hbw
 have qhbt := hbt
 have qhvb := hvb
 have qhb1 := hb1
 have K8 : Keep none_ w4 w4 := Keep.refl _ _
 obtain rfl := List.mem_singleton.1 hL6
 refine GI_cell 29 (.tmp 1) 0 (pt v) (some 9) (by kernel_rfl) (by kernel_rfl) (by kernel_rfl) qhbv (fun f => f) (m := 1) (by kernel_rfl) rfl ?_
 refine GI_static [3, 4, 5] [(1, pt bv), (2, pt bw), (3, pt bt), (4, pt b1), (11, .pointer (some ⟨v, 12, none⟩))] (by kernel_rfl) ?_
 refine GI_cell 63 (.tmp 11) 12 (pt gv) (some 12) (by kernel_rfl) (by kernel_rfl) (by kernel_rfl) qhvb (fun f => f) (m := 1) (by kernel_rfl) (by rw [List.getElem?_append_right (by rw [List.length_map]; omega), List.length_map, hlen]; rfl) ?_
 refine GI_cell 3 (.tmp 2) 0 (nt a) (some 13) (by kernel_rfl) (by kernel_rfl) (by kernel_rfl) qhbw (fun f => f) (m := 1) (by kernel_rfl) rfl ?_
 refine GI_final 5 (by kernel_rfl) (by kernel_rfl) ?_
 refine OI_call { callee := (Callee.value (Operand.func 57)), args := #[(Operand.tmp 12), (Operand.tmp 13)], argTypes := #[63, 3] } 57 #[pt gv, nt a] (some 14) (by kernel_rfl) (by kernel_rfl) (by kernel_rfl) (GV.row_spec _ rfl a _) ?_
 rintro _ w9 ⟨bg2, bs2, bn2, rfl, hbg2, hbs2, hbn2, hk10, hgbg2, hgbs2, hgbn2⟩
 refine ⟨_, rfl, ?_⟩
 have hsz11 := Keep.size hk10
 replace hbv := hbv.keep hk10 (fun f => f)
 replace hbw := hbw.keep hk10 (fun f => f)
 replace hbt := hbt.keep hk10 (fun f => f)
 replace hvb := hvb.keep hk10 (fun f => f)
 replace hb1 := hb1.keep hk10 (fun f => f)
 replace hK0 := Keep.tr hK0 (Keep.ofNone hk10)
 have hbg2lt := hbg2.lt
 have hbs2lt := hbs2.lt
 have hbn2lt := hbn2.lt
 refine OI_end rfl ?_
 refine X_then ?_
 refine V_block ?_
 have hb4ge : w.heap.size ≤ b1 := by omega
 refine V_pick [(1, pt bv), (3, pt bt), (4, pt b1), (14, .func (.func 82) #[] #[pt bg2, pt bs2, pt bn2])] rfl ?_
 have hN0 : w.heap.size ≤ w9.heap.size := Keep.size hK0
 refine V_range2 (gf := 82) (caps := #[pt bg2, pt bs2, pt bn2]) (m := (GV.rowL a s.cs).length) (by kernel_rfl) (by kernel_rfl) (by kernel_rfl) (GV.along1_iter0 bg2 bs2 bn2 gv cap A s.cs a hn) (⟨hbg2, hgA.keep0 hK0, ⟨hbs2, hbn2, hok0.sl.keep0 hK0⟩⟩) (fun W W' h k => ⟨h.1.quiet k, h.2.1.quiet k, h.2.2.quiet k⟩) (GV.enc2_size _) (fun M1 k W => (Blk W b1 [.func (.yield l) #[] #[]] 132) ∧ (Blk W bs2 [nt 0] 3) ∧ (Blk W bn2 [nt a] 3) ∧ (J M1 (vtake s a t k).length W)) (fun M1 c k W => (c = .ret ∧ ∃ q : Nat, (Jx M1 q W) ∧ (q ≤ (vrow s a t).length))) (fun M1 k W W' h hk => by obtain ⟨jb1, jbs2, jbn2, jj⟩ := h; exact ⟨jb1.quiet hk, jbs2.quiet hk, jbn2.quiet hk, (((hJ _ _).mono (by omega)) _ _ jj hk)⟩) (fun M1 c k W W' h hk => by obtain ⟨hc, q, xx, hq⟩ := h; exact ⟨hc, q, (((hJx _ _).mono (by omega)) _ _ xx hk), hq⟩) (fun M1 hM1 => ⟨hb1, hbs2, hbn2, hJ _ _ _ _ (h0 _ (by omega)) (Keep.ofNone hK0)⟩) (fun M1 k W h => by obtain ⟨jb1, jbs2, jbn2, jj⟩ := h; exact ⟨jbs2, jbn2, (hOk _ _ _ jj).sl⟩) ?_ ?_ ?_
 ·
  intro lp D M1 k W hD hl hM hMW hkm ⟨jb1, jbs2, jbn2, jj⟩ ⟨rr, hrr⟩ hDD
  have hb1lt := jb1.lt
  have hbs2lt := jbs2.lt
  have hbn2lt := jbn2.lt
  obtain ⟨x, hx⟩ : ∃ x, (GV.rowL a s.cs)[k]? = some x := ⟨_, List.getElem?_eq_getElem (by omega)⟩
  rw [GV.enc2_at hx]
  have hok := hOk _ _ _ jj
  obtain ⟨c0, hc0, hca, hcb, hcv⟩ := rowL_mem hx
  obtain ⟨i0, b0, q0, hi0, hi12, hpp0, hb0, htr0⟩ := hok.polls c0 hc0
  have hx1 : x.1 = (i0 : Int) := by rw [← hcb]; exact hi0
  rw [hcb] at htr0
  have hbv := hok.hv
  have hbt := hok.ht
  have hvb := hok.blk
  have hbvlt := hbv.lt
  have hbtlt := hbt.lt
  have hvblt := hvb.lt
  have hb0lt := hb0.lt
  have hvlt := hvblt
  refine V_pick [(1, pt bv), (3, pt bt), (4, pt b1), (15, nt x.1), (16, .agg (Vt.cells x.2).toArray)] rfl ?_
  have hfen : Keep (fen w9.heap.size M1) W W := Keep.refl _ _
  have hzhfen := Keep.size hfen
  have hkj : Keep none_ W W := Keep.refl _ _
  have hzhkj := Keep.size hkj
  refine V_seq ?_
  refine V_region ?_
  refine OI_static 1 [(1, pt bv), (3, pt bt), (4, pt b1), (5, nt x.1), (16, .agg (Vt.cells x.2).toArray)] (by kernel_rfl) ?_
  refine OI_end rfl ?_
  refine X_then ?_
  refine V_region ?_
  refine OI_alloc 26 (.agg #[nt 0, .bool false, nt 0, nt 0, nt 0, nt 0]) [nt 0, .bool false, nt 0, nt 0, nt 0, nt 0] (some 6) (by kernel_rfl) (by kernel_rfl) (by kernel_rfl) ?_
  intro b12 w12 e12 hb12 k12 z12
  have hsz13 := Keep.size k12
  replace jb1 := jb1.keep k12 (fun f => f)
  replace jbs2 := jbs2.keep k12 (fun f => f)
  replace jbn2 := jbn2.keep k12 (fun f => f)
  replace hbv := hbv.keep k12 (fun f => f)
  replace hbt := hbt.keep k12 (fun f => f)
  replace hvb := hvb.keep k12 (fun f => f)
  replace hb0 := hb0.keep k12 (fun f => f)
  replace hfen := Keep.tr hfen (Keep.ofNone k12)
  replace hkj := Keep.tr hkj (Keep.ofNone k12)
  have hb12lt := hb12.lt
  refine OI_set (m := 6) (kd := true) 26 (.tmp 6) (.tmp 16) 0 (.agg (Vt.cells x.2).toArray) (Vt.cells x.2) none (by kernel_rfl) (by kernel_rfl) (by kernel_rfl) hb12 (by kernel_rfl) rfl (Vt.len _) (Nat.le_of_ble_eq_true (by kernel_rfl)) (Vt.one _) ?_
  intro w14 hb12_17 hk15 hz16
  replace hb12_17 : Blk w14 b12 (Vt.cells x.2) 26 := (by rwa [over_whole (by rw [Vt.len]; rfl)] at hb12_17)
  have hsz18 := Keep.size hk15
  replace jb1 := jb1.keep hk15 (by show ¬ (_ = _); omega)
  replace jbs2 := jbs2.keep hk15 (by show ¬ (_ = _); omega)
  replace jbn2 := jbn2.keep hk15 (by show ¬ (_ = _); omega)
  replace hbv := hbv.keep hk15 (by show ¬ (_ = _); omega)
  replace hbt := hbt.keep hk15 (by show ¬ (_ = _); omega)
  replace hvb := hvb.keep hk15 (by show ¬ (_ = _); omega)
  replace hb0 := hb0.keep hk15 (by show ¬ (_ = _); omega)
  replace hfen := Keep.fresh hfen hk15 (by intro i hi hs; have hs2 : i = b12 := hs; show _ ∨ _; omega)
  replace hkj := Keep.fresh hkj hk15 (by intro i hi hs; first | exact hs | exact Or.inl hs | exact Or.inr hs | (exfalso; have hs2 : i = b12 := hs; omega))
  refine OI_end rfl ?_
  refine X_begin2 hfen ?_
  intro W2 hk2 ⟨r2, hr2⟩ hD2
  have hsz19 := Keep.size hk2
  replace jb1 := Blk.quiet jb1 hk2
  replace jbs2 := Blk.quiet jbs2 hk2
  replace jbn2 := Blk.quiet jbn2 hk2
  replace hbv := Blk.quiet hbv hk2
  replace hbt := Blk.quiet hbt hk2
  replace hvb := Blk.quiet hvb hk2
  replace hb0 := Blk.quiet hb0 hk2
  replace hb12_17 := Blk.quiet hb12_17 hk2
  replace jj := hJ _ _ _ _ jj (Keep.ofNone hkj); replace jj := (hJ _ _).mono (by omega : w.heap.size ≤ w9.heap.size) _ _ jj hk2; replace hkj := Keep.refl none_ W2
  have hzhk2 := Keep.size hk2
  have hfenb : Keep (fen w9.heap.size M1) W2 W2 := Keep.refl _ _
  have hzhfenb := Keep.size hfenb
  have hzhkj := Keep.size hkj
  refine V_block ?_
  refine V_seq ?_
  refine V_draws (acts [2, 12]) none_ [[0, 1, 2, 3, 4, 5, 6, 7, 8, 9, 10, 11, 12, 13, 14]] (by kernel_rfl) (by repeat first | exact (by first | exact sure_postM | exact sure_rQ2 | exact sure_no | exact sure_body (by rintro _ _ ⟨h, _⟩; exact ⟨_, h⟩)) | refine sure_then ?_ | refine sure_block ?_ | refine sure_join ?_) (by kernel_rfl) ?_
  intro w21 hk20 he22 L hL23
  have hsz24 := Keep.size hk20
  replace jb1 := jb1.keep hk20 (fun f => f)
  replace jbs2 := jbs2.keep hk20 (fun f => f)
  replace jbn2 := jbn2.keep hk20 (fun f => f)
  replace hbv := hbv.keep hk20 (fun f => f)
  replace hbt := hbt.keep hk20 (fun f => f)
  replace hvb := hvb.keep hk20 (fun f => f)
  replace hb0 := hb0.keep hk20 (fun f => f)
  replace hb12_17 := hb12_17.keep hk20 (fun f => f)
  replace hkj := Keep.tr hkj (Keep.ofNone hk20)
  replace hfenb := Keep.tr hfenb (Keep.ofNone hk20)
  have qjb1 := jb1
  have qjbs2 := jbs2
  have qjbn2 := jbn2
  have qhbv := hbv
  have qhbt := hbt
  have qhvb := hvb
  have qhb0 := hb0
  have qhb12_17 := hb12_17
  have K25 : Keep none_ w21 w21 := Keep.refl _ _
  obtain rfl := List.mem_singleton.1 hL23
  refine GI_cell 29 (.tmp 1) 0 (pt v) (some 17) (by kernel_rfl) (by kernel_rfl) (by kernel_rfl) qhbv (fun f => f) (m := 1) (by kernel_rfl) rfl ?_
  refine GI_static [2, 3, 4, 5, 6, 7, 8, 9, 10, 11, 12, 13, 14] [(3, pt bt), (4, pt b1), (5, nt x.1), (6, pt b12), (17, pt v), (18, nt x.1)] (by kernel_rfl) ?_
  refine GI_call { callee := (Callee.value (Operand.func 23)), args := #[(Operand.tmp 17), (Operand.tmp 18)], argTypes := #[29, 3] } 23 #[pt v, nt x.1] (some 19) (by kernel_rfl) (by kernel_rfl) (by kernel_rfl) (by kernel_rfl) ((by rw [hx1]; exact pollfn_at v gv gr i0 pp (some ⟨b0, 0, none⟩) _ hvb hok.len hi12 hpp0)) ?_
  rintro _ w26 ⟨rfl, hk27⟩
  have K28 := K25.tr (Keep.ofNone hk27)
  refine ⟨_, rfl, K28, ?_⟩
  have hzK28 := Keep.size K28
  have hsz29 := Keep.size hk27
  replace jb1 := jb1.keep hk27 (fun f => f)
  replace jbs2 := jbs2.keep hk27 (fun f => f)
  replace jbn2 := jbn2.keep hk27 (fun f => f)
  replace hbv := hbv.keep hk27 (fun f => f)
  replace hbt := hbt.keep hk27 (fun f => f)
  replace hvb := hvb.keep hk27 (fun f => f)
  replace hb0 := hb0.keep hk27 (fun f => f)
  replace hb12_17 := hb12_17.keep hk27 (fun f => f)
  replace hkj := Keep.tr hkj (Keep.ofNone hk27)
  replace hfenb := Keep.tr hfenb (Keep.ofNone hk27)
  refine GI_static [5, 6, 7, 8, 9, 10, 11, 12, 13, 14] [(3, pt bt), (4, pt b1), (5, nt x.1), (6, pt b12), (21, pt b0)] (by kernel_rfl) ?_
  refine GI_cell 3 (.tmp 21) 0 (nt q0.track) (some 22) (by kernel_rfl) (by kernel_rfl) (by kernel_rfl) qhb0 (fun f => f) (m := 1) (by kernel_rfl) rfl ?_
  refine GI_cell 3 (.tmp 3) 0 (nt t) (some 23) (by kernel_rfl) (by kernel_rfl) (by kernel_rfl) qhbt (fun f => f) (m := 1) (by kernel_rfl) rfl ?_
  refine GI_static [9, 10, 11, 12, 13, 14] [(4, pt b1), (5, nt x.1), (6, pt b12), (25, .bool (decide (q0.track = t)))] (by kernel_rfl) ?_
  by_cases hg30 : q0.track = t
  ·
   refine GI_eq [(4, pt b1), (5, nt x.1), (6, pt b12), (25, .bool true)] (by first | simp [hg30] | rfl) ?_
   refine GI_cell 132 (.tmp 4) 0 (.func (.yield l) #[] #[]) (some 26) (by kernel_rfl) (by kernel_rfl) (by kernel_rfl) qjb1 (fun f => f) (m := 1) (by kernel_rfl) rfl ?_
   refine GI_static [11, 12, 13, 14] [(6, pt b12), (25, .bool true), (26, .func (.yield l) #[] #[]), (27, nt x.1)] (by kernel_rfl) ?_
   refine GI_agg 26 (.tmp 6) 0 (Vt.cells x.2) (some 28) (by kernel_rfl) (by kernel_rfl) (by kernel_rfl) qhb12_17 (fun f => f) (m := 6) (by kernel_rfl) (take_all (Vt.len _)) (Vt.len _) ?_
   obtain ⟨hat, hlt⟩ := vtake_at hx (htr0.symm.trans hg30)
   refine GI_yield0 { callee := (Callee.value (Operand.tmp 26)), args := #[(Operand.tmp 27), (Operand.tmp 28)], argTypes := #[3, 26] } l #[nt x.1, .agg (Vt.cells x.2).toArray] (some 29) (by kernel_rfl) (by kernel_rfl) (by kernel_rfl) (by kernel_rfl) (by have hy := hY M1 _ _ (by omega) (by omega) hlt (hJ _ _ _ _ jj (Keep.ofNone hkj)); rw [GV.enc2_at hat] at hy; exact hy) ?_
   rintro _ w31 ⟨hk33, (⟨rfl, hj32⟩ | ⟨rfl, hj32⟩)⟩
   ·
    refine ⟨_, rfl, ?_⟩
    have hsz34 := Keep.size hk33
    replace jb1 := jb1.keep hk33 (by show ¬ (_ ∨ _); omega)
    replace jbs2 := jbs2.keep hk33 (by show ¬ (_ ∨ _); omega)
    replace jbn2 := jbn2.keep hk33 (by show ¬ (_ ∨ _); omega)
    replace hfenb := Keep.fresh hfenb hk33 (by intro i hi hs; rcases hs with hs | hs; exact .inl (by omega); exact .inr hs)
    refine GI_static [] [(31, .bool false)] (by kernel_rfl) ?_
    refine GI_end ?_
    refine X_then ?_
    refine V_false rfl ?_
    refine V_skip ?_
    refine X_block ?_
    exact fun a _ => ⟨hfenb, jb1, jbs2, jbn2, by rw [vtake_step hx, if_pos (htr0.symm.trans hg30)]; simpa using hj32⟩
   ·
    refine ⟨_, rfl, ?_⟩
    have hsz35 := Keep.size hk33
    replace jb1 := jb1.keep hk33 (by show ¬ (_ ∨ _); omega)
    replace jbs2 := jbs2.keep hk33 (by show ¬ (_ ∨ _); omega)
    replace jbn2 := jbn2.keep hk33 (by show ¬ (_ ∨ _); omega)
    replace hfenb := Keep.fresh hfenb hk33 (by intro i hi hs; rcases hs with hs | hs; exact .inl (by omega); exact .inr hs)
    refine GI_static [] [(31, .bool true)] (by kernel_rfl) ?_
    refine GI_end ?_
    refine X_then ?_
    refine V_true rfl ?_
    refine V_ret ?_
    refine X_ret_block ?_
    exact fun a _ => ⟨hfenb, ⟨rfl, _, hj32, by omega⟩⟩
  ·
   refine GI_eq [(4, pt b1), (5, nt x.1), (6, pt b12), (25, .bool false)] (by first | simp [hg30] | rfl) ?_
   refine GI_static [] [(31, .bool false)] (by kernel_rfl) ?_
   refine GI_end ?_
   refine X_then ?_
   refine V_false rfl ?_
   refine V_skip ?_
   refine X_block ?_
   exact fun a _ => ⟨hfenb, jb1, jbs2, jbn2, hJ _ _ _ _ (by rw [vtake_step hx, if_neg (fun h9 => hg30 (htr0.trans h9))]; exact jj) (Keep.ofNone hkj)⟩
 ·
  intro D M1 W hD hM ⟨jb1, jbs2, jbn2, jj⟩ hDD
  have hb1lt := jb1.lt
  have hbs2lt := jbs2.lt
  have hbn2lt := jbn2.lt
  refine X_block ?_
  rw [vtake_all] at jj
  exact leave1 (.tuple #[]) (.inr rfl) hDD (fun w' hk => ⟨res_tmps rfl, ⟨_, rfl⟩, M1, by omega, .inl (((hJ _ _).mono (by omega)) _ _ jj hk)⟩)
 ·
  intro D M1 k c W hD hM hkm h hDD
  obtain ⟨hc, q, xx, hq⟩ := h
  subst hc
  refine V_ret ?_
  refine X_ret_block ?_
  exact leave1 (.tuple #[]) (.inl rfl) hDD (fun w' hk => ⟨res_tmps rfl, ⟨_, rfl⟩, M1, by omega, .inr ⟨q, hq, ((hJx _ _).mono (by omega)) _ _ xx hk⟩⟩)
end Go.Al


namespace Go.Al
open Go Go.RowKit Go.Proofs
set_option maxRecDepth 10000 in
theorem votesfn_spec (v : Value) (hv : v.cells = [v].toArray) (a t : Int) (w : World) : Calls Try.prog 36 #[v, .int .i64 a, .int .i64 t] w fun e w' => ∃ bv bw bt, e = .returned (.func (.func 56) #[] #[.pointer (some ⟨bv, 0, none⟩), .pointer (some ⟨bw, 0, none⟩), .pointer (some ⟨bt, 0, none⟩)]) ∧ Blk w' bv [v] 29 ∧ Blk w' bw [.int .i64 a] 3 ∧ Blk w' bt [.int .i64 t] 3 ∧ Keep none_ w w' ∧ w.heap.size ≤ bv ∧ w.heap.size ≤ bw ∧ w.heap.size ≤ bt := by
 have hK0 : Keep none_ w w := Keep.refl _ _
 have hzhK0 := Keep.size hK0
 refine enterV Try.func36 rfl [v, nt a, nt t] 8 rfl rfl rfl ?_
 refine V_pick [(0, v), (1, nt a), (2, nt t)] rfl ?_
 refine V_seq ?_
 refine V_region ?_
 refine OI_box 29 (.tmp 0) v [v] (some 3) (by kernel_rfl) (by kernel_rfl) hv ?_
 intro b1 w1 e1 hb1 k1 z1
 have hsz2 := Keep.size k1
 replace hK0 := Keep.tr hK0 (Keep.ofNone k1)
 have hb1lt := hb1.lt
 refine OI_box 3 (.tmp 1) (nt a) [nt a] (some 4) (by kernel_rfl) (by kernel_rfl) (by kernel_rfl) ?_
 intro b3 w3 e3 hb3 k3 z3
 have hsz4 := Keep.size k3
 replace hb1 := hb1.keep k3 (fun f => f)
 replace hK0 := Keep.tr hK0 (Keep.ofNone k3)
 have hb3lt := hb3.lt
 refine OI_box 3 (.tmp 2) (nt t) [nt t] (some 5) (by kernel_rfl) (by kernel_rfl) (by kernel_rfl) ?_
 intro b5 w5 e5 hb5 k5 z5
 have hsz6 := Keep.size k5
 replace hb1 := hb1.keep k5 (fun f => f)
 replace hb3 := hb3.keep k5 (fun f => f)
 replace hK0 := Keep.tr hK0 (Keep.ofNone k5)
 have hb5lt := hb5.lt
 refine OI_static 4 [(3, pt b1), (4, pt b3), (5, pt b5)] (by kernel_rfl) ?_
 refine OI_end rfl ?_
 refine X_then ?_
 refine V_seq ?_
 refine V_region ?_
 refine OI_static 2 [(6, .func (.func 56) #[] #[pt b1, pt b3, pt b5])] (by kernel_rfl) ?_
 refine OI_end rfl ?_
 refine X_then ?_
 refine V_ret ?_
 exact X_return _ rfl ⟨_, _, _, rfl, hb1, hb3, hb5, hK0, by omega, by omega, by omega⟩

set_option maxRecDepth 10000 in
theorem count_spec (F : Nat → Prop) (v : Nat) (P : VP) (s : VS) (a t : Int) (w : World) (h : Vot F w v P s) : Calls Try.prog 30 #[.pointer (some ⟨v, 0, none⟩), .int .i64 a, .int .i64 t] w fun e w' => e = .returned (.int .i64 (((vrow s a t).length : Nat) : Int)) ∧ Keep none_ w w' := by
 have hFlt := Vot.lt h
 have hvlt := hFlt _ (Vot.at_ h)
 have hFo : ∀ q, F q → 0 ≤ q := fun q _ => Nat.zero_le q
 have hFr : ∀ q, F q → F q ∨ w.heap.size ≤ q := fun _ h => .inl h
 have hK0 : Keep none_ w w := Keep.refl _ _
 have hzhK0 := Keep.size hK0
 refine enterM Try.func30 rfl [pt v, nt a, nt t] 17 rfl rfl rfl ?_
 refine V_pick [(0, pt v), (1, nt a), (2, nt t)] rfl ?_
 refine V_seq ?_
 refine V_region ?_
 refine OI_static 1 [(0, pt v), (1, nt a), (2, nt t), (6, nt 0)] (by kernel_rfl) ?_
 refine OI_end rfl ?_
 refine X_then ?_
 refine V_seq ?_
 refine V_region ?_
 refine OI_alloc 3 (nt 0) [nt 0] (some 7) (by kernel_rfl) (by kernel_rfl) (by kernel_rfl) ?_
 intro b1 w1 e1 hb1 k1 z1
 have hsz2 := Keep.size k1
 replace h := Vot.keep h k1 (fun _ _ f => f)
 replace hK0 := Keep.tr hK0 (Keep.ofNone k1)
 have hb1lt := hb1.lt
 refine OI_set (m := 1) (kd := false) 3 (.tmp 7) (.const (Value.int IntKind.i64 0)) 0 (nt 0) [nt 0] none (by kernel_rfl) (by kernel_rfl) (by kernel_rfl) hb1 (by kernel_rfl) (by kernel_rfl) (by kernel_rfl) (Nat.le_of_ble_eq_true (by kernel_rfl)) (by simp [Value.oneCell']) ?_
 intro w3 hb1_6 hk4 hz5
 replace hb1_6 : Blk w3 b1 [nt 0] 3 := hb1_6
 have hsz7 := Keep.size hk4
 replace h := Vot.keep h hk4 (fun q hq hs => by have hs : q = b1 := hs; have g0 := hFo q hq; have g1 := hFlt q hq; omega)
 replace hK0 := Keep.fresh hK0 hk4 (by intro i hi hs; first | exact hs | exact Or.inl hs | exact Or.inr hs | (exfalso; have hs2 : i = b1 := hs; omega))
 refine OI_end rfl ?_
 refine X_then ?_
 refine V_seq ?_
 refine V_seq ?_
 refine V_region ?_
 refine OI_static 3 [(6, nt 0), (7, pt b1), (8, pt v), (9, nt a), (10, nt t)] (by kernel_rfl) ?_
 refine OI_call { callee := (Callee.value (Operand.func 36)), args := #[(Operand.tmp 8), (Operand.tmp 9), (Operand.tmp 10)], argTypes := #[29, 3, 3] } 36 #[pt v, nt a, nt t] (some 11) (by kernel_rfl) (by kernel_rfl) (by kernel_rfl) (votesfn_spec _ rfl a t _) ?_
 rintro _ w8 ⟨bv10, bw11, bt12, rfl, hbv10, hbw11, hbt12, hk9, hgebv10, hgebw11, hgebt12⟩
 refine ⟨_, rfl, ?_⟩
 have hsz13 := Keep.size hk9
 replace hb1_6 := hb1_6.keep hk9 (fun f => f)
 replace h := Vot.keep h hk9 (fun _ _ f => f)
 replace hK0 := Keep.tr hK0 (Keep.ofNone hk9)
 have hbv10lt := hbv10.lt
 have hbw11lt := hbw11.lt
 have hbt12lt := hbt12.lt
 refine OI_end rfl ?_
 refine X_then ?_
 refine V_block ?_
 obtain ⟨A14, cap14, hva14⟩ := Vot.arr h
 have hal14 := VotA.lenA hva14
 have hvl9 := vrow_len s a t
 refine V_pick [(7, pt b1), (11, .func (.func 56) #[] #[pt bv10, pt bw11, pt bt12])] rfl ?_
 have hN0 : w.heap.size ≤ w8.heap.size := Keep.size hK0
 refine V_range2 (gf := 56) (caps := #[pt bv10, pt bw11, pt bt12]) (m := (vrow s a t).length) (by kernel_rfl) (by kernel_rfl) (by kernel_rfl) (votes1_iter bv10 bw11 bt12 v P.gv P.gr cap14 P.pp A14 s a t (by omega)) (⟨VotA.grat hva14, VotA.ok hva14 rfl (fun _ => rfl) hbv10 hbw11 hbt12⟩) (fun W W' h k => ⟨h.1.quiet k, h.2.quiet k⟩) (GV.enc2_size _) (fun M1 k W => (Blk W bv10 [pt v] 29) ∧ (Blk W bw11 [nt a] 3) ∧ (Blk W bt12 [nt t] 3) ∧ (VotA A14 cap14 F W v P s) ∧ (Keep none_ w W) ∧ (Blk W b1 [nt ((k : Nat) : Int)] 3)) (fun M1 c k W => False) (fun M1 k W W' h hk => by obtain ⟨jbv10, jbw11, jbt12, jhva14, jhK0, jb1⟩ := h; exact ⟨jbv10.quiet hk, jbw11.quiet hk, jbt12.quiet hk, VotA.quiet jhva14 hk, jhK0.quiet hk (by omega), jb1.quiet hk⟩) (fun _ _ _ _ _ h _ => h.elim) (fun M1 hM1 => ⟨hbv10, hbw11, hbt12, hva14, hK0, hb1_6⟩) (fun M1 k W h => by obtain ⟨jbv10, jbw11, jbt12, jhva14, jhK0, jb1⟩ := h; exact (VotA.ok jhva14 rfl (fun _ => rfl) jbv10 jbw11 jbt12)) ?_ ?_ (fun _ _ _ _ _ _ _ _ h _ => h.elim)
 ·
  intro lp D M1 k W hD hl hM hMW hkm ⟨jbv10, jbw11, jbt12, jhva14, jhK0, jb1⟩ ⟨rr, hrr⟩ hDD
  have hzjhK0 := Keep.size jhK0
  have hb1lt := jb1.lt
  have hbv10lt := jbv10.lt
  have hbw11lt := jbw11.lt
  have hbt12lt := jbt12.lt
  obtain ⟨x, hx⟩ : ∃ x, (vrow s a t)[k]? = some x := ⟨_, List.getElem?_eq_getElem (by omega)⟩
  rw [GV.enc2_at hx]
  refine V_pick [(7, pt b1)] rfl ?_
  have hfen : Keep (fen w8.heap.size M1) W W := Keep.refl _ _
  have hzhfen := Keep.size hfen
  refine V_skip ?_
  refine X_begin2 hfen ?_
  intro W2 hk2 ⟨r2, hr2⟩ hD2
  have hsz15 := Keep.size hk2
  replace jb1 := Blk.quiet jb1 hk2
  replace jbv10 := Blk.quiet jbv10 hk2
  replace jbw11 := Blk.quiet jbw11 hk2
  replace jbt12 := Blk.quiet jbt12 hk2
  replace jhva14 := VotA.quiet jhva14 hk2
  replace jhK0 := Keep.quiet jhK0 hk2 (by omega)
  have hzhk2 := Keep.size hk2
  have hfenb : Keep (fen w8.heap.size M1) W2 W2 := Keep.refl _ _
  have hzhfenb := Keep.size hfenb
  refine V_block ?_
  refine V_region ?_
  refine OI_cell 3 (.tmp 7) 0 (nt ((k : Nat) : Int)) (some 14) (by kernel_rfl) (by kernel_rfl) jb1 (m := 1) (by kernel_rfl) rfl ?_
  have hw16 : IntKind.i64.wrap (((k : Nat) : Int) + 1) = ((k + 1 : Nat) : Int) := (wrap64_id (by omega) (by omega)).trans (by omega)
  refine OI_static 2 [(7, pt b1), (15, nt (IntKind.i64.wrap (((k : Nat) : Int) + 1)))] (by kernel_rfl) ?_
  refine OI_eq [(7, pt b1), (15, nt ((k + 1 : Nat) : Int))] (by rw [hw16]) ?_
  refine OI_set (m := 1) (kd := false) 3 (.tmp 7) (.tmp 15) 0 (nt ((k + 1 : Nat) : Int)) [nt ((k + 1 : Nat) : Int)] none (by kernel_rfl) (by kernel_rfl) (by kernel_rfl) jb1 (by kernel_rfl) (by kernel_rfl) (by kernel_rfl) (Nat.le_of_ble_eq_true (by kernel_rfl)) (by simp [Value.oneCell']) ?_
  intro w17 hb1_20 hk18 hz19
  replace hb1_20 : Blk w17 b1 [nt ((k + 1 : Nat) : Int)] 3 := hb1_20
  have hsz21 := Keep.size hk18
  replace jbv10 := jbv10.keep hk18 (by show ¬ (_ = _); omega)
  replace jbw11 := jbw11.keep hk18 (by show ¬ (_ = _); omega)
  replace jbt12 := jbt12.keep hk18 (by show ¬ (_ = _); omega)
  replace jhva14 := VotA.keep jhva14 hk18 (fun q hq hs => by have hs : q = b1 := hs; have g0 := hFo q hq; have g1 := hFlt q hq; omega)
  replace jhK0 := Keep.fresh jhK0 hk18 (by intro i hi hs; first | exact hs | exact Or.inl hs | exact Or.inr hs | (exfalso; have hs2 : i = b1 := hs; omega))
  replace hfenb := Keep.fresh hfenb hk18 (by intro i hi hs; have hs2 : i = b1 := hs; show _ ∨ _; omega)
  refine OI_end rfl ?_
  refine X_block ?_
  exact fun a _ => ⟨hfenb, jbv10, jbw11, jbt12, jhva14, jhK0, hb1_20⟩
 ·
  intro D M1 W hD hM ⟨jbv10, jbw11, jbt12, jhva14, jhK0, jb1⟩ hDD
  have hzjhK0 := Keep.size jhK0
  have hb1lt := jb1.lt
  have hbv10lt := jbv10.lt
  have hbw11lt := jbw11.lt
  have hbt12lt := jbt12.lt
  refine X_block ?_
  refine X_then ?_
  refine V_seq ?_
  refine V_region ?_
  refine OI_cell 3 (.tmp 7) 0 (nt (((vrow s a t).length : Nat) : Int)) (some 16) (by kernel_rfl) (by kernel_rfl) jb1 (m := 1) (by kernel_rfl) rfl ?_
  refine OI_static 2 [(6, nt (((vrow s a t).length : Nat) : Int))] (by kernel_rfl) ?_
  refine OI_end rfl ?_
  refine X_then ?_
  refine V_ret ?_
  exact leave1 (.int .i64 (((vrow s a t).length : Nat) : Int)) (.inl rfl) hDD (fun w' hk => ⟨res_tmps rfl, ⟨rfl, Keep.quiet jhK0 hk (by omega)⟩⟩)

theorem GV.setC_mem2 {a b : Int} {v : Vt} {y : GV.Ci} : ∀ {cs : List GV.Ci}, y ∈ GV.setC a b v cs → y = ⟨a, b, v⟩ ∨ y ∈ cs
  | [], h => by simp only [GV.setC, List.mem_singleton] at h; exact .inl h
  | x :: l, h => by
    simp only [GV.setC] at h
    split at h
    · rcases List.mem_cons.1 h with h | h
      · exact .inl h
      · exact .inr (List.mem_cons_of_mem _ h)
    · split at h
      · rcases List.mem_cons.1 h with h | h
        · exact .inr (by rw [h]; exact List.mem_cons_self ..)
        · exact (GV.setC_mem2 h).imp id (List.mem_cons_of_mem _)
      · rcases List.mem_cons.1 h with h | h
        · exact .inl h
        · exact .inr h
theorem vget_spec (F : Nat → Prop) (v : Nat) (P : VP) (s : VS) (a b : Int) (w : World) (h : Vot F w v P s) : Calls Try.prog 27 #[.pointer (some ⟨P.gv, 0, none⟩), .int .i64 a, .int .i64 b] w fun e w' => e = .returned (.tuple #[.agg (Vt.cells ((GV.getC a b s.cs).getD Vt.zero)).toArray, .bool (GV.getC a b s.cs).isSome]) ∧ Keep none_ w w' := by
  obtain ⟨F1, F2, M, hX, _⟩ := h
  exact GV.get_spec F1 P.gv s.cs a b w hX.gv.gr

theorem vset_spec (F : Nat → Prop) (v : Nat) (P : VP) (s : VS) (a b : Int) (x : Vt) (w : World) (h : Vot F w v P s) (ha : 0 ≤ a ∧ a < 10) (hb : 0 ≤ b ∧ b < 12) (hok : okV x) (hp : ∃ q, s.ps[b.toNat]? = some (some q)) : Calls Try.prog 34 #[.pointer (some ⟨P.gv, 0, none⟩), .int .i64 a, .int .i64 b, .agg (Vt.cells x).toArray] w fun e w' => e = .returned (.tuple #[]) ∧ (∃ F', Vot F' w' v P { s with cs := GV.setC a b x s.cs } ∧ (∀ q, F' q → F q ∨ w.heap.size ≤ q)) ∧ Keep F w w' := by
  have hl := h.cslen
  obtain ⟨F1, F2, M, hX, h1, h2, h3, h4⟩ := h
  refine (GV.set_grd F1 P.gv s.cs a b x w hX.gv (by omega)).mono ?_
  rintro e w' ⟨rfl, ⟨F1', hG, hfr⟩, hk⟩
  refine ⟨rfl, Vot.setCs hX h1 h2 h3 h4 hk hG hfr ⟨hX.inv.len, fun c hc => ?_, hX.inv.dels⟩, hk.mono (fun q _ hq => h1 q hq)⟩
  rcases GV.setC_mem2 hc with rfl | hc
  · exact ⟨ha, hb, hok, hp⟩
  · exact hX.inv.votes c hc

def hasAt (t n : Int) (l : List (Int × Int)) : Bool := l.any fun x => decide (x.1 = t) && decide (n ≤ x.2)
def raiseC (cs : List Ci) (a t n : Int) : List Ci := if hasAt t n (rowL a cs) = true then cs else lockC cs a t n
theorem hasAt_yes {t n : Int} {l : List (Int × Int)} {k : Nat} {x : Int × Int} (hx : l[k]? = some x) (h1 : x.1 = t) (h2 : n ≤ x.2) : hasAt t n l = true := by
  unfold hasAt
  exact List.any_eq_true.2 ⟨x, List.mem_of_getElem? hx, by simp [h1, h2]⟩
theorem hasAt_step {t n : Int} {l : List (Int × Int)} {k : Nat} {x : Int × Int} (hx : l[k]? = some x) (h0 : hasAt t n (l.take k) = false) (h : ¬ (x.1 = t ∧ n ≤ x.2)) : hasAt t n (l.take (k + 1)) = false := by
  obtain ⟨h1, rfl⟩ := List.getElem?_eq_some_iff.1 hx
  unfold hasAt at *
  rw [List.take_succ_eq_append_getElem h1, List.any_append, h0]
  simpa using h

set_option maxRecDepth 10000 in
theorem raise_spec (F : Nat → Prop) (l : Nat) (xs : List Acc) (cs : List Ci) (a t n : Int) (w : World) (h : Led F w l xs cs) (hmax : cs.length < 100000) : Calls Try.prog 35 #[.pointer (some ⟨l, 0, none⟩), .int .i64 a, .int .i64 t, .int .i64 n] w fun e w' => e = .returned (.tuple #[]) ∧ (∃ F', Led F' w' l xs (raiseC cs a t n) ∧ (∀ q, F' q → F q ∨ w.heap.size ≤ q)) ∧ Keep F w w' := by
 have hFlt := Led.lt h
 have hllt := hFlt _ (Led.at_ h)
 have hinv := Led.inv h
 have hFr : ∀ q, F q → F q ∨ w.heap.size ≤ q := fun _ h => .inl h
 have hcopy := h
 obtain ⟨_, _, _, g, A, cap, D, hat, hG, hAF, hDF, _⟩ := hcopy
 have hl9 := hat.blk
 obtain ⟨_, _, _, _, A2, cap2, hat2, hAD2⟩ := hG
 have owA2 : ∀ q, inA A2 q → q < w.heap.size := fun q hq => hFlt q (hDF q (hAD2 q hq)).1
 have hgb := hat2.blk
 have hA2 := hat2.sl
 have hglt := hgb.lt
 have hK0 : Keep F w w := Keep.refl _ _
 have hzhK0 := Keep.size hK0
 refine enterM Try.func35 rfl [pt l, nt a, nt t, nt n] 28 rfl rfl rfl ?_
 refine V_pick [(0, pt l), (1, nt a), (2, nt t), (3, nt n)] rfl ?_
 refine V_seq ?_
 refine V_region ?_
 refine OI_box 3 (.tmp 2) (nt t) [nt t] (some 6) (by kernel_rfl) (by kernel_rfl) (by kernel_rfl) ?_
 intro b1 w1 e1 hb1 k1 z1
 have hsz2 := Keep.size k1
 replace hl9 := hl9.keep k1 (fun f => f)
 replace hgb := hgb.keep k1 (fun f => f)
 replace hA2 := SlT.keep0 hA2 k1
 replace h := Led.keep h k1 (fun _ _ f => f)
 replace hK0 := Keep.tr hK0 (Keep.ofNone k1)
 have hb1lt := hb1.lt
 refine OI_box 3 (.tmp 3) (nt n) [nt n] (some 7) (by kernel_rfl) (by kernel_rfl) (by kernel_rfl) ?_
 intro b3 w3 e3 hb3 k3 z3
 have hsz4 := Keep.size k3
 replace hl9 := hl9.keep k3 (fun f => f)
 replace hgb := hgb.keep k3 (fun f => f)
 replace hb1 := hb1.keep k3 (fun f => f)
 replace hA2 := SlT.keep0 hA2 k3
 replace h := Led.keep h k3 (fun _ _ f => f)
 replace hK0 := Keep.tr hK0 (Keep.ofNone k3)
 have hb3lt := hb3.lt
 refine OI_end rfl ?_
 refine X_then ?_
 refine V_seq ?_
 refine V_seq ?_
 refine V_region ?_
 refine OI_static 2 [(0, pt l), (1, nt a), (6, pt b1), (7, pt b3), (10, pt l), (11, nt a)] (by kernel_rfl) ?_
 refine OI_call { callee := (Callee.value (Operand.func 39)), args := #[(Operand.tmp 10), (Operand.tmp 11)], argTypes := #[28, 3] } 39 #[pt l, nt a] (some 12) (by kernel_rfl) (by kernel_rfl) (by kernel_rfl) (locks_spec l g _ a _ hl9) ?_
 rintro _ w5 ⟨bg7, bs8, bn9, rfl, hbg7, hbs8, hbn9, hk6, hgebg7, hgebs8, hgebn9⟩
 refine ⟨_, rfl, ?_⟩
 have hsz10 := Keep.size hk6
 replace hl9 := hl9.keep hk6 (fun f => f)
 replace hgb := hgb.keep hk6 (fun f => f)
 replace hb1 := hb1.keep hk6 (fun f => f)
 replace hb3 := hb3.keep hk6 (fun f => f)
 replace hA2 := SlT.keep0 hA2 hk6
 replace h := Led.keep h hk6 (fun _ _ f => f)
 replace hK0 := Keep.tr hK0 (Keep.ofNone hk6)
 have hbg7lt := hbg7.lt
 have hbs8lt := hbs8.lt
 have hbn9lt := hbn9.lt
 refine OI_end rfl ?_
 refine X_then ?_
 refine V_block ?_
 have hat3 := (⟨hgb, hA2, hat2.off⟩ : GrAt _ g A2 cap2 cs)
 refine V_pick [(0, pt l), (1, nt a), (6, pt b1), (7, pt b3), (12, .func (.func 84) #[] #[pt bg7, pt bs8, pt bn9])] rfl ?_
 have hN0 : w.heap.size ≤ w5.heap.size := Keep.size hK0
 refine V_range2 (gf := 84) (caps := #[pt bg7, pt bs8, pt bn9]) (m := (rowL a cs).length) (by kernel_rfl) (by kernel_rfl) (by kernel_rfl) (along1_iter0 bg7 bs8 bn9 g cap2 A2 cs a (by omega)) (⟨hbg7, hat3, ⟨hbs8, hbn9, hA2⟩⟩) (fun W W' h k => ⟨h.1.quiet k, h.2.1.quiet k, h.2.2.quiet k⟩) (enc2_size _) (fun M1 k W => (Blk W b1 [nt t] 3) ∧ (Blk W b3 [nt n] 3) ∧ (Blk W bs8 [nt 0] 3) ∧ (Blk W bn9 [nt a] 3) ∧ (SlT W 3 Ci.cells A2 cap2 cs) ∧ (Led F W l xs cs) ∧ (Keep F w W) ∧ (hasAt t n ((rowL a cs).take k) = false)) (fun M1 c k W => (c = .ret ∧ (Blk W b1 [nt t] 3) ∧ (Blk W b3 [nt n] 3) ∧ (Blk W bs8 [nt 0] 3) ∧ (Blk W bn9 [nt a] 3) ∧ (SlT W 3 Ci.cells A2 cap2 cs) ∧ (Led F W l xs cs) ∧ (Keep F w W) ∧ (hasAt t n (rowL a cs) = true))) (fun M1 k W W' h hk => by obtain ⟨jb1, jb3, jbs8, jbn9, jA2, jh, jhK0, hno⟩ := h; exact ⟨jb1.quiet hk, jb3.quiet hk, jbs8.quiet hk, jbn9.quiet hk, jA2.quiet hk, Led.quiet jh hk, jhK0.quiet hk (by omega), hno⟩) (fun M1 c k W W' h hk => by obtain ⟨hc, jb1, jb3, jbs8, jbn9, jA2, jh, jhK0, hyes⟩ := h; exact ⟨hc, jb1.quiet hk, jb3.quiet hk, jbs8.quiet hk, jbn9.quiet hk, jA2.quiet hk, Led.quiet jh hk, jhK0.quiet hk (by omega), hyes⟩) (fun M1 hM1 => ⟨hb1, hb3, hbs8, hbn9, hA2, h, hK0, rfl⟩) (fun M1 k W h => by obtain ⟨jb1, jb3, jbs8, jbn9, jA2, jh, jhK0, hno⟩ := h; exact ⟨jbs8, jbn9, jA2⟩) ?_ ?_ ?_
 ·
  intro lp D M1 k W hD hl hM hMW hkm ⟨jb1, jb3, jbs8, jbn9, jA2, jh, jhK0, hno⟩ ⟨rr, hrr⟩ hDD
  have hzjhK0 := Keep.size jhK0
  have hb1lt := jb1.lt
  have hb3lt := jb3.lt
  have hbs8lt := jbs8.lt
  have hbn9lt := jbn9.lt
  have ltjA2 := SlT.lt jA2
  obtain ⟨x, hx⟩ : ∃ x, (rowL a cs)[k]? = some x := ⟨_, List.getElem?_eq_getElem hkm⟩
  rw [enc2_at hx]
  refine V_pick [(6, pt b1), (7, pt b3), (13, nt x.1), (14, nt x.2)] rfl ?_
  have hfen : Keep (fen w5.heap.size M1) W W := Keep.refl _ _
  have hzhfen := Keep.size hfen
  refine V_seq ?_
  refine V_region ?_
  refine OI_static 1 [(6, pt b1), (7, pt b3), (8, nt x.1), (14, nt x.2)] (by kernel_rfl) ?_
  refine OI_end rfl ?_
  refine X_then ?_
  refine V_region ?_
  refine OI_static 1 [(6, pt b1), (7, pt b3), (8, nt x.1), (9, nt x.2)] (by kernel_rfl) ?_
  refine OI_end rfl ?_
  refine X_begin2 hfen ?_
  intro W2 hk2 ⟨r2, hr2⟩ hD2
  have hsz11 := Keep.size hk2
  replace jb1 := Blk.quiet jb1 hk2
  replace jb3 := Blk.quiet jb3 hk2
  replace jbs8 := Blk.quiet jbs8 hk2
  replace jbn9 := Blk.quiet jbn9 hk2
  replace jA2 := SlT.quiet jA2 hk2
  replace jh := Led.quiet jh hk2
  replace jhK0 := Keep.quiet jhK0 hk2 (by omega)
  have hzhk2 := Keep.size hk2
  have hfenb : Keep (fen w5.heap.size M1) W2 W2 := Keep.refl _ _
  have hzhfenb := Keep.size hfenb
  refine V_block ?_
  refine V_seq ?_
  refine V_region ?_
  refine OI_static 1 [(6, pt b1), (7, pt b3), (9, nt x.2), (15, nt x.1)] (by kernel_rfl) ?_
  refine OI_cell 3 (.tmp 6) 0 (nt t) (some 16) (by kernel_rfl) (by kernel_rfl) jb1 (m := 1) (by kernel_rfl) rfl ?_
  refine OI_static 4 [(7, pt b3), (9, nt x.2), (18, .bool (decide (x.1 = t)))] (by kernel_rfl) ?_
  by_cases hg12 : x.1 = t
  ·
   refine OI_eq [(7, pt b3), (9, nt x.2), (18, .bool true)] (by first | simp [hg12] | rfl) ?_
   refine OI_static 5 [(7, pt b3), (18, .bool true), (19, nt x.2)] (by kernel_rfl) ?_
   refine OI_cell 3 (.tmp 7) 0 (nt n) (some 20) (by kernel_rfl) (by kernel_rfl) jb3 (m := 1) (by kernel_rfl) rfl ?_
   refine OI_static 8 [(22, .bool (decide (x.2 ≥ n)))] (by kernel_rfl) ?_
   refine OI_end rfl ?_
   refine X_then ?_
   refine V_if (x.2 ≥ n) (by kernel_rfl) (fun hc13 => ?_) (fun hc13 => ?_)
   ·
    refine V_ret ?_
    refine X_ret_block ?_
    exact fun a _ => ⟨hfenb, ⟨rfl, jb1, jb3, jbs8, jbn9, jA2, jh, jhK0, hasAt_yes hx hg12 hc13⟩⟩
   ·
    refine V_skip ?_
    refine X_block ?_
    exact fun a _ => ⟨hfenb, jb1, jb3, jbs8, jbn9, jA2, jh, jhK0, hasAt_step hx hno (by rintro ⟨h8, h9⟩; exact hc13 h9)⟩
  ·
   refine OI_eq [(7, pt b3), (9, nt x.2), (18, .bool false)] (by first | simp [hg12] | rfl) ?_
   refine OI_static 8 [(22, .bool false)] (by kernel_rfl) ?_
   refine OI_end rfl ?_
   refine X_then ?_
   refine V_false rfl ?_
   refine V_skip ?_
   refine X_block ?_
   exact fun a _ => ⟨hfenb, jb1, jb3, jbs8, jbn9, jA2, jh, jhK0, hasAt_step hx hno (by rintro ⟨h8, h9⟩; exact hg12 h8)⟩
 ·
  intro D M1 W hD hM ⟨jb1, jb3, jbs8, jbn9, jA2, jh, jhK0, hno⟩ hDD
  have hzjhK0 := Keep.size jhK0
  have hb1lt := jb1.lt
  have hb3lt := jb3.lt
  have hbs8lt := jbs8.lt
  have hbn9lt := jbn9.lt
  have ltjA2 := SlT.lt jA2
  refine X_block ?_
  refine X_then ?_
  refine V_region ?_
  refine OI_static 2 [(6, pt b1), (7, pt b3), (23, pt l), (24, nt a)] (by kernel_rfl) ?_
  refine OI_cell 3 (.tmp 6) 0 (nt t) (some 25) (by kernel_rfl) (by kernel_rfl) jb1 (m := 1) (by kernel_rfl) rfl ?_
  refine OI_cell 3 (.tmp 7) 0 (nt n) (some 26) (by kernel_rfl) (by kernel_rfl) jb3 (m := 1) (by kernel_rfl) rfl ?_
  refine OI_call { callee := (Callee.value (Operand.func 55)), args := #[(Operand.tmp 23), (Operand.tmp 24), (Operand.tmp 25), (Operand.tmp 26)], argTypes := #[28, 3, 3, 3] } 55 #[pt l, nt a, nt t, nt n] (some 27) (by kernel_rfl) (by kernel_rfl) (by kernel_rfl) (lock_spec F l xs cs a t n _ jh hmax) ?_
  rintro _ w14 ⟨rfl, ⟨F16, ho17, hfr18⟩, hk15⟩
  refine ⟨_, rfl, ?_⟩
  have hsz19 := Keep.size hk15
  replace jbs8 := jbs8.keep hk15 (fun hs => by have h2 := hFlt _ hs; omega)
  replace jbn9 := jbn9.keep hk15 (fun hs => by have h2 := hFlt _ hs; omega)
  replace jhK0 := Keep.fresh jhK0 hk15 (fun i hi hs => by rcases hFr i hs with h | h; exact h; (exfalso; omega))
  replace hDD := (Keep.block hk15 _ (Array.getElem?_eq_some_iff.1 hDD).1 (fun hs => by have h2 := hFlt _ hs; omega)).trans hDD
  have lt20 := Led.lt ho17
  have rel21 : ∀ q, F16 q → F q ∨ w.heap.size ≤ q := fun q hq => by rcases hfr18 q hq with h | h; exact hFr q h; exact .inr (by omega)
  refine OI_end rfl ?_
  rw [List.take_length] at hno
  exact leave1 (.tuple #[]) (.inr rfl) hDD (fun w' hk => ⟨res_tmps rfl, ⟨rfl, ⟨F16, by rw [show raiseC cs a t n = lockC cs a t n from by unfold raiseC; rw [if_neg (by rw [hno]; decide)]]; exact Led.quiet ho17 hk, rel21⟩, Keep.quiet jhK0 hk (by omega)⟩⟩)
 ·
  intro D M1 k c W hD hM hkm h hDD
  obtain ⟨hc, jb1, jb3, jbs8, jbn9, jA2, jh, jhK0, hyes⟩ := h
  subst hc
  have hzjhK0 := Keep.size jhK0
  have hb1lt := jb1.lt
  have hb3lt := jb3.lt
  have hbs8lt := jbs8.lt
  have hbn9lt := jbn9.lt
  have ltjA2 := SlT.lt jA2
  refine V_ret ?_
  refine X_ret_block ?_
  refine X_ret_then ?_
  exact leave1 (.tuple #[]) (.inl rfl) hDD (fun w' hk => ⟨res_tmps rfl, ⟨rfl, ⟨F, by rw [show raiseC cs a t n = cs from by unfold raiseC; rw [if_pos hyes]]; exact Led.quiet jh hk, hFr⟩, Keep.quiet jhK0 hk (by omega)⟩⟩)
end Go.Al


namespace Go.Al
open Go Go.RowKit Go.Proofs
def joinR (r : RecS) (u n now : Int) : RecS := if u > now then { r with till := if u > r.till then u else r.till, n := if n > r.n then n else r.n } else r
theorem joinR_d (r : RecS) (u n now : Int) : (joinR r u n now).d = r.d := by unfold joinR; split <;> rfl
theorem VS.setP_setP (s : VS) (i : Nat) (a b : PollS) : (s.setP i a).setP i b = s.setP i b := by unfold VS.setP; simp
theorem trk_setP {s : VS} {i : Nat} {q q' : PollS} (h : s.ps[i]? = some (some q)) (ht : q'.track = q.track) (r : Int) : trk (s.setP i q') r = trk s r := by
  unfold trk VS.setP
  by_cases he : i = r.toNat
  · subst he
    have hl := (List.getElem?_eq_some_iff.1 h).1
    simp only [List.getElem?_set_self hl, h, ht]
  · simp only [List.getElem?_set_ne he]
theorem updR_self (rc : Int → Int → RecS) (a t : Int) (r : RecS) : updR rc a t r a t = r := by unfold updR; rw [if_pos ⟨rfl, rfl⟩]

end Go.Al


namespace Go.Al
open Go Go.RowKit Go.Proofs
theorem Vot.recO {F : Nat → Prop} {w : World} {v : Nat} {P : VP} {s : VS} (h : Vot F w v P s) {a t : Int} {q : Nat} (e : GR.getC a t P.rs = some (some ⟨q, 0, none⟩)) : ∃ dp, F q ∧ Blk w q (RecS.cells dp (s.rc a t)) 76 := by
  obtain ⟨⟨dp, h1, _⟩, h2⟩ := h.recB e
  exact ⟨dp, h2, h1⟩
theorem Vot.setDelE {F : Nat → Prop} {w w' : World} {v : Nat} {P : VP} {s : VS} (h : Vot F w v P s) {a t : Int} {q b0 : Nat} {r' : RecS} {d : DelS} {L : List Value} (e : GR.getC a t P.rs = some (some ⟨q, 0, none⟩)) (hb : Blk w q L 76) (hb0 : Blk w b0 d.cells 89) (hF0 : ¬ F b0) (k : Keep (only q) w w') (hb' : Blk w' q (RecS.cells (some ⟨b0, 0, none⟩) r') 76)
    (hd : r'.d = some d) (hok : okD r') : ∃ F', Vot F' w' v P (s.setR a t r') ∧ ∀ x, F' x → F x ∨ x = b0 := ⟨_, Vot.setDel h e hb hb0 hF0 k hb' hd hok, fun _ h => h⟩
theorem VotA.setRec {A : Option Addr} {cap : Nat} {F : Nat → Prop} {w w' : World} {v : Nat} {P : VP} {s : VS} (h : VotA A cap F w v P s) {a t : Int} {q : Nat} {r' : RecS} {dp dp' : Option Addr} (e : GR.getC a t P.rs = some (some ⟨q, 0, none⟩)) (hb : Blk w q (RecS.cells dp (s.rc a t)) 76) (k : Keep (only q) w w') (hb' : Blk w' q (RecS.cells dp' r') 76)
    (hd : (dp' = dp ∧ r'.d = (s.rc a t).d) ∨ (dp' = none ∧ r'.d = none)) : Vot F w' v P (s.setR a t r') := h.vot.setRec e hb k hb' hd

def retally1 (was now : Wgt) (s : VS) (c : Int × Vt) : VS := match s.ps[c.1.toNat]? with
  | some (some q) => if q.state = 0 then s.setP c.1.toNat { q with t := addT (subT q.t (gainT c.2 was)) (gainT c.2 now) } else s
  | _ => s
def retally (was now : Wgt) (s : VS) (l : List (Int × Vt)) : VS := l.foldl (retally1 was now) s
def gotW (g wt : Wgt) : Wgt := ⟨w64 (g.v + wt.v), w64 (g.c + wt.c)⟩
def getsS (s : VS) (a t : Int) (wt : Wgt) : VS := retally (s.rc a t).got (gotW (s.rc a t).got wt) (s.setR a t { s.rc a t with got := ⟨w64 ((s.rc a t).got.v + wt.v), w64 ((s.rc a t).got.c + wt.c)⟩ }) (vrow s a t)
theorem retally1_inv (was now : Wgt) (s : VS) (c : Int × Vt) : (retally1 was now s c).cs = s.cs ∧ (retally1 was now s c).rc = s.rc ∧ ∀ r, trk (retally1 was now s c) r = trk s r := by
  unfold retally1
  split
  · rename_i q hq
    split
    · exact ⟨rfl, rfl, trk_setP hq rfl⟩
    · exact ⟨rfl, rfl, fun _ => rfl⟩
  · exact ⟨rfl, rfl, fun _ => rfl⟩
theorem retally_inv (was now : Wgt) : ∀ (l : List (Int × Vt)) (s : VS), (retally was now s l).cs = s.cs ∧ (retally was now s l).rc = s.rc ∧ ∀ r, trk (retally was now s l) r = trk s r
  | [], s => ⟨rfl, rfl, fun _ => rfl⟩
  | c :: l, s => by
    obtain ⟨h1, h2, h3⟩ := retally1_inv was now s c
    obtain ⟨g1, g2, g3⟩ := retally_inv was now l (retally1 was now s c)
    exact ⟨g1.trans h1, g2.trans h2, fun r => (g3 r).trans (h3 r)⟩
theorem retally_step {was now : Wgt} {s : VS} {l : List (Int × Vt)} {k : Nat} {c : Int × Vt} (h : l[k]? = some c) : retally was now s (l.take (k + 1)) = retally1 was now (retally was now s (l.take k)) c := by
  obtain ⟨h1, rfl⟩ := List.getElem?_eq_some_iff.1 h
  unfold retally
  rw [List.take_succ_eq_append_getElem h1, List.foldl_append]; rfl
theorem VotA.pthere {A : Option Addr} {cap : Nat} {F : Nat → Prop} {w : World} {v : Nat} {P : VP} {s s0 : VS} (h : VotA A cap F w v P s) (hcs : s.cs = s0.cs) {a t : Int} {k : Nat} {x : Int × Vt} (hx : (vrow s0 a t)[k]? = some x) : ∃ q, pollAt s x.1 = some q := by
  obtain ⟨F1, F2, M, h, _⟩ := h
  have hm := List.mem_of_getElem? hx
  unfold vrow at hm
  obtain ⟨hm, _⟩ := List.mem_filter.1 hm
  obtain ⟨j, hj, he⟩ := List.getElem_of_mem hm
  obtain ⟨c, hc, h1, h2, h3⟩ := rowL_mem (k := j) (by rw [List.getElem?_eq_getElem hj, he])
  obtain ⟨g1, g2, g3, q0, g4⟩ := h.inv.votes c (by rw [hcs]; exact hc)
  refine ⟨q0, ?_⟩
  unfold pollAt
  rw [← h2, if_pos g2, g4]; rfl

set_option maxRecDepth 10000 in
theorem gets_spec (F : Nat → Prop) (v : Nat) (P : VP) (s : VS) (a t : Int) (wt : Wgt) (w : World) (h : Vot F w v P s)(ha : 0 ≤ a ∧ a < 10) (ht : 0 ≤ t ∧ t < 4) : Calls Try.prog 37 #[.pointer (some ⟨v, 0, none⟩), .int .i64 a, .int .i64 t, .agg wt.cells.toArray] w fun e w' => e = .returned (.tuple #[]) ∧ ∃ P', P'.pp = P.pp ∧ P'.gv = P.gv ∧ (∀ x y z, GR.getC x y P.rs = some z → GR.getC x y P'.rs = some z) ∧ (∀ x L, Blk w x L 89 → Blk w' x L 89) ∧ (∃ F', Vot F' w' v P' (getsS s a t wt) ∧ (∀ q, F' q → F q ∨ w.heap.size ≤ q)) ∧ Keep F w w' := by
 have hFlt := Vot.lt h
 have hvlt := hFlt _ (Vot.at_ h)
 have hFo : ∀ q, F q → 0 ≤ q := fun q _ => Nat.zero_le q
 have hFr : ∀ q, F q → F q ∨ w.heap.size ≤ q := fun _ h => .inl h
 have htd : ∀ x L, Blk w x L 89 → Blk w x L 89 := fun _ _ h => h
 have hK0 : Keep F w w := Keep.refl _ _
 have hzhK0 := Keep.size hK0
 refine enterM Try.func37 rfl [pt v, nt a, nt t, .agg (Wgt.cells wt).toArray] 68 rfl rfl rfl ?_
 refine V_pick [(0, pt v), (1, nt a), (2, nt t), (3, .agg (Wgt.cells wt).toArray)] rfl ?_
 refine V_seq ?_
 refine V_region ?_
 refine OI_box 29 (.tmp 0) (pt v) [pt v] (some 4) (by kernel_rfl) (by kernel_rfl) (by kernel_rfl) ?_
 intro b1 w1 e1 hb1 k1 z1
 have hsz2 := Keep.size k1
 replace h := Vot.keep h k1 (fun _ _ f => f)
 replace htd : ∀ x L, Blk w x L 89 → Blk w1 x L 89 := fun x L hx => Blk.keep (htd x L hx) k1 (fun f => f)
 replace hK0 := Keep.tr hK0 (Keep.ofNone k1)
 have hb1lt := hb1.lt
 refine OI_box 74 (.tmp 3) (.agg (Wgt.cells wt).toArray) (Wgt.cells wt) (some 7) (by kernel_rfl) (by kernel_rfl) rfl ?_
 intro b3 w3 e3 hb3 k3 z3
 have hsz4 := Keep.size k3
 replace hb1 := hb1.keep k3 (fun f => f)
 replace h := Vot.keep h k3 (fun _ _ f => f)
 replace htd : ∀ x L, Blk w x L 89 → Blk w3 x L 89 := fun x L hx => Blk.keep (htd x L hx) k3 (fun f => f)
 replace hK0 := Keep.tr hK0 (Keep.ofNone k3)
 have hb3lt := hb3.lt
 refine OI_end rfl ?_
 refine X_then ?_
 refine V_seq ?_
 refine V_region ?_
 refine OI_cell 29 (.tmp 4) 0 (pt v) (some 13) (by kernel_rfl) (by kernel_rfl) hb1 (m := 1) (by kernel_rfl) rfl ?_
 refine OI_static 3 [(1, nt a), (2, nt t), (4, pt b1), (7, pt b3), (13, pt v), (14, nt a), (15, nt t)] (by kernel_rfl) ?_
 refine OI_call { callee := (Callee.value (Operand.func 26)), args := #[(Operand.tmp 13), (Operand.tmp 14), (Operand.tmp 15)], argTypes := #[29, 3, 3] } 26 #[pt v, nt a, nt t] (some 16) (by kernel_rfl) (by kernel_rfl) (by kernel_rfl) (record_spec F v P s a t _ h ha ht) ?_
 rintro _ w17 ⟨q7, P8, rfl, hgc12, hpp13, hgv14, hmn15, hdl16, ⟨F9, ho10, hfr11⟩, hk18⟩
 refine ⟨_, rfl, ?_⟩
 have hsz19 := Keep.size hk18
 replace hb1 := hb1.keep hk18 (fun hs => by have h1 := hFo _ hs; have h2 := hFlt _ hs; omega)
 replace hb3 := hb3.keep hk18 (fun hs => by have h1 := hFo _ hs; have h2 := hFlt _ hs; omega)
 replace htd : ∀ x L, Blk w x L 89 → Blk w17 x L 89 := fun x L hx => hdl16 x L (htd x L hx)
 replace hK0 := Keep.fresh hK0 hk18 (fun i hi hs => by rcases hFr i hs with h | h; exact h; (exfalso; omega))
 have own21 : ∀ q, F9 q → 0 ≤ q ∧ q ≠ b1 ∧ q ≠ b3 := fun q hq => by rcases hfr11 q hq with h | h; (have h1 := hFo q h; have h2 := hFlt q h; omega); omega
 have lt20 := Vot.lt ho10
 have rel22 : ∀ q, F9 q → F q ∨ w.heap.size ≤ q := fun q hq => by rcases hfr11 q hq with h | h; exact hFr q h; exact .inr (by omega)
 have hgq7lt := lt20 _ (Vot.at_ ho10)
 obtain ⟨dp25, hF24, hm23⟩ := Vot.recO ho10 hgc12
 have hq7lt := hm23.lt
 have hloq7 := lt20 _ hF24
 have hoq7 := own21 _ hF24
 refine OI_alloc 68 (.pointer none) [.pointer none] (some 8) (by kernel_rfl) (by kernel_rfl) (by kernel_rfl) ?_
 intro b26 w26 e26 hb26 k26 z26
 have hsz27 := Keep.size k26
 replace hb1 := hb1.keep k26 (fun f => f)
 replace hb3 := hb3.keep k26 (fun f => f)
 replace hm23 := hm23.keep k26 (fun f => f)
 replace htd : ∀ x L, Blk w x L 89 → Blk w26 x L 89 := fun x L hx => Blk.keep (htd x L hx) k26 (fun f => f)
 replace hK0 := Keep.tr hK0 (Keep.ofNone k26)
 replace ho10 := Vot.keep ho10 k26 (fun _ _ f => f)
 have hb26lt := hb26.lt
 refine OI_set (m := 1) (kd := false) 68 (.tmp 8) (.tmp 16) 0 (pt q7) [pt q7] none (by kernel_rfl) (by kernel_rfl) (by kernel_rfl) hb26 (by kernel_rfl) (by kernel_rfl) (by kernel_rfl) (Nat.le_of_ble_eq_true (by kernel_rfl)) (by simp [Value.oneCell']) ?_
 intro w28 hb26_31 hk29 hz30
 replace hb26_31 : Blk w28 b26 [pt q7] 68 := hb26_31
 have hsz32 := Keep.size hk29
 replace hb1 := hb1.keep hk29 (by show ¬ (_ = _); omega)
 replace hb3 := hb3.keep hk29 (by show ¬ (_ = _); omega)
 replace hm23 := hm23.keep hk29 (by show ¬ (_ = _); omega)
 replace htd : ∀ x L, Blk w x L 89 → Blk w28 x L 89 := fun x L hx => Blk.keep (htd x L hx) hk29 (Blk.ne (htd x L hx) hb26 (by decide))
 replace hK0 := Keep.fresh hK0 hk29 (by intro i hi hs; first | exact hs | exact Or.inl hs | exact Or.inr hs | (exfalso; have hs2 : i = b26 := hs; omega))
 replace ho10 := Vot.keep ho10 hk29 (fun q hq hs => by have hs : q = b26 := hs; have g0 := own21 q hq; have g1 := lt20 q hq; omega)
 refine OI_end rfl ?_
 refine X_then ?_
 refine V_seq ?_
 refine V_region ?_
 refine OI_cell 68 (.tmp 8) 0 (pt q7) (some 17) (by kernel_rfl) (by kernel_rfl) hb26_31 (m := 1) (by kernel_rfl) rfl ?_
 refine OI_static 3 [(1, nt a), (2, nt t), (4, pt b1), (7, pt b3), (8, pt b26), (19, .pointer (some ⟨q7, 1, none⟩))] (by kernel_rfl) ?_
 refine OI_agg 74 (.tmp 19) 1 [nt (((s.rc a t)).got.v), nt (((s.rc a t)).got.c)] (some 20) (by kernel_rfl) (by kernel_rfl) hm23 (m := 2) (by kernel_rfl) rfl rfl ?_
 refine OI_alloc 74 (.agg #[nt 0, nt 0]) [nt 0, nt 0] (some 9) (by kernel_rfl) (by kernel_rfl) (by kernel_rfl) ?_
 intro b33 w33 e33 hb33 k33 z33
 have hsz34 := Keep.size k33
 replace hb1 := hb1.keep k33 (fun f => f)
 replace hb3 := hb3.keep k33 (fun f => f)
 replace hm23 := hm23.keep k33 (fun f => f)
 replace hb26_31 := hb26_31.keep k33 (fun f => f)
 replace htd : ∀ x L, Blk w x L 89 → Blk w33 x L 89 := fun x L hx => Blk.keep (htd x L hx) k33 (fun f => f)
 replace hK0 := Keep.tr hK0 (Keep.ofNone k33)
 replace ho10 := Vot.keep ho10 k33 (fun _ _ f => f)
 have hb33lt := hb33.lt
 refine OI_set (m := 2) (kd := true) 74 (.tmp 9) (.tmp 20) 0 (.agg #[nt (((s.rc a t)).got.v), nt (((s.rc a t)).got.c)]) [nt (((s.rc a t)).got.v), nt (((s.rc a t)).got.c)] none (by kernel_rfl) (by kernel_rfl) (by kernel_rfl) hb33 (by kernel_rfl) (by kernel_rfl) (by kernel_rfl) (Nat.le_of_ble_eq_true (by kernel_rfl)) (by simp [Value.oneCell']) ?_
 intro w35 hb33_38 hk36 hz37
 replace hb33_38 : Blk w35 b33 [nt (((s.rc a t)).got.v), nt (((s.rc a t)).got.c)] 74 := hb33_38
 have hsz39 := Keep.size hk36
 replace hb1 := hb1.keep hk36 (by show ¬ (_ = _); omega)
 replace hb3 := hb3.keep hk36 (by show ¬ (_ = _); omega)
 replace hm23 := hm23.keep hk36 (by show ¬ (_ = _); omega)
 replace hb26_31 := hb26_31.keep hk36 (by show ¬ (_ = _); omega)
 replace htd : ∀ x L, Blk w x L 89 → Blk w35 x L 89 := fun x L hx => Blk.keep (htd x L hx) hk36 (Blk.ne (htd x L hx) hb33 (by decide))
 replace hK0 := Keep.fresh hK0 hk36 (by intro i hi hs; first | exact hs | exact Or.inl hs | exact Or.inr hs | (exfalso; have hs2 : i = b33 := hs; omega))
 replace ho10 := Vot.keep ho10 hk36 (fun q hq hs => by have hs : q = b33 := hs; have g0 := own21 q hq; have g1 := lt20 q hq; omega)
 refine OI_end rfl ?_
 refine X_then ?_
 refine V_seq ?_
 refine V_region ?_
 refine OI_cell 68 (.tmp 8) 0 (pt q7) (some 21) (by kernel_rfl) (by kernel_rfl) hb26_31 (m := 1) (by kernel_rfl) rfl ?_
 refine OI_static 2 [(1, nt a), (2, nt t), (4, pt b1), (7, pt b3), (8, pt b26), (9, pt b33), (21, pt q7), (22, pt b33)] (by kernel_rfl) ?_
 refine OI_cell 3 (.tmp 22) 0 (nt (((s.rc a t)).got.v)) (some 23) (by kernel_rfl) (by kernel_rfl) hb33_38 (m := 1) (by kernel_rfl) rfl ?_
 refine OI_static 4 [(1, nt a), (2, nt t), (4, pt b1), (7, pt b3), (8, pt b26), (9, pt b33), (21, pt q7), (23, nt (((s.rc a t)).got.v)), (24, pt b3)] (by kernel_rfl) ?_
 refine OI_cell 3 (.tmp 24) 0 (nt wt.v) (some 25) (by kernel_rfl) (by kernel_rfl) hb3 (m := 1) (by kernel_rfl) rfl ?_
 refine OI_static 7 [(1, nt a), (2, nt t), (4, pt b1), (7, pt b3), (8, pt b26), (9, pt b33), (21, pt q7), (26, nt (IntKind.i64.wrap ((((s.rc a t)).got.v) + wt.v))), (27, .pointer (some ⟨b33, 1, none⟩))] (by kernel_rfl) ?_
 refine OI_cell 3 (.tmp 27) 1 (nt (((s.rc a t)).got.c)) (some 28) (by kernel_rfl) (by kernel_rfl) hb33_38 (m := 1) (by kernel_rfl) rfl ?_
 refine OI_static 9 [(1, nt a), (2, nt t), (4, pt b1), (8, pt b26), (9, pt b33), (21, pt q7), (26, nt (IntKind.i64.wrap ((((s.rc a t)).got.v) + wt.v))), (28, nt (((s.rc a t)).got.c)), (29, .pointer (some ⟨b3, 1, none⟩))] (by kernel_rfl) ?_
 refine OI_cell 3 (.tmp 29) 1 (nt wt.c) (some 30) (by kernel_rfl) (by kernel_rfl) hb3 (m := 1) (by kernel_rfl) rfl ?_
 refine OI_static 14 [(1, nt a), (2, nt t), (4, pt b1), (8, pt b26), (9, pt b33), (32, .agg #[nt (IntKind.i64.wrap ((((s.rc a t)).got.v) + wt.v)), nt (IntKind.i64.wrap ((((s.rc a t)).got.c) + wt.c))]), (34, .pointer (some ⟨q7, 1, none⟩))] (by kernel_rfl) ?_
 refine OI_set (m := 2) (kd := true) 74 (.tmp 34) (.tmp 32) 1 (.agg #[nt (IntKind.i64.wrap ((((s.rc a t)).got.v) + wt.v)), nt (IntKind.i64.wrap ((((s.rc a t)).got.c) + wt.c))]) [nt (IntKind.i64.wrap ((((s.rc a t)).got.v) + wt.v)), nt (IntKind.i64.wrap ((((s.rc a t)).got.c) + wt.c))] none (by kernel_rfl) (by kernel_rfl) (by kernel_rfl) hm23 (by kernel_rfl) (by kernel_rfl) (by kernel_rfl) (Nat.le_of_ble_eq_true (by kernel_rfl)) (by simp [Value.oneCell']) ?_
 intro w40 hn43 hk41 hz42
 replace hn43 : Blk w40 q7 [.pointer dp25, nt (IntKind.i64.wrap ((((s.rc a t)).got.v) + wt.v)), nt (IntKind.i64.wrap ((((s.rc a t)).got.c) + wt.c)), nt (((s.rc a t)).till), nt (((s.rc a t)).n)] 76 := hn43
 have hsz44 := Keep.size hk41
 replace hb1 := hb1.keep hk41 (by show ¬ (b1 = q7); omega)
 replace hb3 := hb3.keep hk41 (by show ¬ (b3 = q7); omega)
 replace hb26_31 := hb26_31.keep hk41 (by show ¬ (b26 = q7); omega)
 replace hb33_38 := hb33_38.keep hk41 (by show ¬ (b33 = q7); omega)
 replace htd : ∀ x L, Blk w x L 89 → Blk w40 x L 89 := fun x L hx => Blk.keep (htd x L hx) hk41 (Blk.ne (htd x L hx) hm23 (by decide))
 replace hK0 := Keep.fresh hK0 hk41 (fun i hi hs => by have hs : F9 i := (by rw [show i = q7 from hs]; exact hF24); rcases rel22 i hs with h | h; exact h; (exfalso; omega))
 have ho45 := Vot.setRec (a := a) (t := t) (r' := { (s.rc a t) with got := ⟨IntKind.i64.wrap ((((s.rc a t)).got.v) + wt.v), IntKind.i64.wrap ((((s.rc a t)).got.c) + wt.c)⟩ }) (dp := dp25) (dp' := dp25) ho10 hgc12 hm23 hk41 (show Blk _ _ (RecS.cells dp25 { (s.rc a t) with got := ⟨IntKind.i64.wrap ((((s.rc a t)).got.v) + wt.v), IntKind.i64.wrap ((((s.rc a t)).got.c) + wt.c)⟩ }) _ from hn43) (.inl ⟨rfl, by first | rfl | exact joinR_d _ _ _ _ | (rw [show s.rc a t = (s.rc a t) from rfl]) | (rw [show s.rc a t = (s.rc a t) from rfl]; exact joinR_d _ _ _ _)⟩)
 obtain ⟨r46, hr46⟩ : ∃ r9 : RecS, r9 = { (s.rc a t) with got := ⟨IntKind.i64.wrap ((((s.rc a t)).got.v) + wt.v), IntKind.i64.wrap ((((s.rc a t)).got.c) + wt.c)⟩ } := ⟨_, rfl⟩
 replace hn43 : Blk w40 q7 (RecS.cells dp25 r46) 76 := by rw [hr46]; exact hn43
 have hq7lt := hn43.lt
 refine OI_end rfl ?_
 refine X_then ?_
 refine V_seq ?_
 refine V_region ?_
 refine OI_cell 29 (.tmp 4) 0 (pt v) (some 35) (by kernel_rfl) (by kernel_rfl) hb1 (m := 1) (by kernel_rfl) rfl ?_
 refine OI_static 3 [(4, pt b1), (8, pt b26), (9, pt b33), (35, pt v), (36, nt a), (37, nt t)] (by kernel_rfl) ?_
 refine OI_call { callee := (Callee.value (Operand.func 36)), args := #[(Operand.tmp 35), (Operand.tmp 36), (Operand.tmp 37)], argTypes := #[29, 3, 3] } 36 #[pt v, nt a, nt t] (some 38) (by kernel_rfl) (by kernel_rfl) (by kernel_rfl) (votesfn_spec _ rfl a t _) ?_
 rintro _ w49 ⟨bv51, bw52, bt53, rfl, hbv51, hbw52, hbt53, hk50, hgebv51, hgebw52, hgebt53⟩
 refine ⟨_, rfl, ?_⟩
 have hsz54 := Keep.size hk50
 replace hb1 := hb1.keep hk50 (fun f => f)
 replace hb3 := hb3.keep hk50 (fun f => f)
 replace hb26_31 := hb26_31.keep hk50 (fun f => f)
 replace hb33_38 := hb33_38.keep hk50 (fun f => f)
 replace hn43 := hn43.keep hk50 (fun f => f)
 replace htd : ∀ x L, Blk w x L 89 → Blk w49 x L 89 := fun x L hx => Blk.keep (htd x L hx) hk50 (fun f => f)
 replace hK0 := Keep.tr hK0 (Keep.ofNone hk50)
 replace ho45 := Vot.keep ho45 hk50 (fun _ _ f => f)
 have hbv51lt := hbv51.lt
 have hbw52lt := hbw52.lt
 have hbt53lt := hbt53.lt
 refine OI_end rfl ?_
 refine X_then ?_
 refine V_block ?_
 obtain ⟨A55, cap55, hva55⟩ := Vot.arr ho45
 have hal55 := VotA.lenA hva55
 have hvl9 := vrow_len (s.setR a t { (s.rc a t) with got := ⟨IntKind.i64.wrap ((((s.rc a t)).got.v) + wt.v), IntKind.i64.wrap ((((s.rc a t)).got.c) + wt.c)⟩ }) a t
 refine V_pick [(4, pt b1), (8, pt b26), (9, pt b33), (38, .func (.func 56) #[] #[pt bv51, pt bw52, pt bt53])] rfl ?_
 have hN0 : w.heap.size ≤ w49.heap.size := Keep.size hK0
 refine V_range2 (gf := 56) (caps := #[pt bv51, pt bw52, pt bt53]) (m := (vrow (s.setR a t { (s.rc a t) with got := ⟨IntKind.i64.wrap ((((s.rc a t)).got.v) + wt.v), IntKind.i64.wrap ((((s.rc a t)).got.c) + wt.c)⟩ }) a t).length) (by kernel_rfl) (by kernel_rfl) (by kernel_rfl) (votes1_iter bv51 bw52 bt53 v P8.gv P8.gr cap55 P8.pp A55 (s.setR a t { (s.rc a t) with got := ⟨IntKind.i64.wrap ((((s.rc a t)).got.v) + wt.v), IntKind.i64.wrap ((((s.rc a t)).got.c) + wt.c)⟩ }) a t (by omega)) (⟨VotA.grat hva55, VotA.ok hva55 rfl (fun _ => rfl) hbv51 hbw52 hbt53⟩) (fun W W' h k => ⟨h.1.quiet k, h.2.quiet k⟩) (GV.enc2_size _) (fun M1 k W => (Blk W b1 [pt v] 29) ∧ (Blk W b3 (Wgt.cells wt) 74) ∧ (Blk W b26 [pt q7] 68) ∧ (Blk W b33 [nt (((s.rc a t)).got.v), nt (((s.rc a t)).got.c)] 74) ∧ (Blk W bv51 [pt v] 29) ∧ (Blk W bw52 [nt a] 3) ∧ (Blk W bt53 [nt t] 3) ∧ (∀ x L, Blk w x L 89 → Blk W x L 89) ∧ (Keep F w W) ∧ (VotA A55 cap55 F9 W v P8 (retally (s.rc a t).got (gotW (s.rc a t).got wt) (s.setR a t { (s.rc a t) with got := ⟨IntKind.i64.wrap ((((s.rc a t)).got.v) + wt.v), IntKind.i64.wrap ((((s.rc a t)).got.c) + wt.c)⟩ }) ((vrow (s.setR a t { (s.rc a t) with got := ⟨IntKind.i64.wrap ((((s.rc a t)).got.v) + wt.v), IntKind.i64.wrap ((((s.rc a t)).got.c) + wt.c)⟩ }) a t).take k)))) (fun M1 c k W => False) (fun M1 k W W' h hk => by obtain ⟨jb1, jb3, jb26, jb33, jbv51, jbw52, jbt53, jhtd, jhK0, jv9⟩ := h; exact ⟨jb1.quiet hk, jb3.quiet hk, jb26.quiet hk, jb33.quiet hk, jbv51.quiet hk, jbw52.quiet hk, jbt53.quiet hk, (fun x L hx => Blk.quiet (jhtd x L hx) hk), jhK0.quiet hk (by omega), (VotA.quiet jv9 hk)⟩) (fun _ _ _ _ _ h _ => h.elim) (fun M1 hM1 => ⟨hb1, hb3, hb26_31, hb33_38, hbv51, hbw52, hbt53, htd, hK0, hva55⟩) (fun M1 k W h => by obtain ⟨jb1, jb3, jb26, jb33, jbv51, jbw52, jbt53, jhtd, jhK0, jv9⟩ := h; exact (VotA.ok jv9 (retally_inv (s.rc a t).got (gotW (s.rc a t).got wt) ((vrow (s.setR a t { (s.rc a t) with got := ⟨IntKind.i64.wrap ((((s.rc a t)).got.v) + wt.v), IntKind.i64.wrap ((((s.rc a t)).got.c) + wt.c)⟩ }) a t).take k) (s.setR a t { (s.rc a t) with got := ⟨IntKind.i64.wrap ((((s.rc a t)).got.v) + wt.v), IntKind.i64.wrap ((((s.rc a t)).got.c) + wt.c)⟩ })).1 (retally_inv (s.rc a t).got (gotW (s.rc a t).got wt) ((vrow (s.setR a t { (s.rc a t) with got := ⟨IntKind.i64.wrap ((((s.rc a t)).got.v) + wt.v), IntKind.i64.wrap ((((s.rc a t)).got.c) + wt.c)⟩ }) a t).take k) (s.setR a t { (s.rc a t) with got := ⟨IntKind.i64.wrap ((((s.rc a t)).got.v) + wt.v), IntKind.i64.wrap ((((s.rc a t)).got.c) + wt.c)⟩ })).2.2 jbv51 jbw52 jbt53)) ?_ ?_ (fun _ _ _ _ _ _ _ _ h _ => h.elim)
 ·
  intro lp D M1 k W hD hl hM hMW hkm ⟨jb1, jb3, jb26, jb33, jbv51, jbw52, jbt53, jhtd, jhK0, jv9⟩ ⟨rr, hrr⟩ hDD
  have hzjhK0 := Keep.size jhK0
  have hb1lt := jb1.lt
  have hb3lt := jb3.lt
  have hb26lt := jb26.lt
  have hb33lt := jb33.lt
  have hbv51lt := jbv51.lt
  have hbw52lt := jbw52.lt
  have hbt53lt := jbt53.lt
  obtain ⟨x, hx⟩ : ∃ x, (vrow (s.setR a t { (s.rc a t) with got := ⟨IntKind.i64.wrap ((((s.rc a t)).got.v) + wt.v), IntKind.i64.wrap ((((s.rc a t)).got.c) + wt.c)⟩ }) a t)[k]? = some x := ⟨_, List.getElem?_eq_getElem (by omega)⟩
  rw [GV.enc2_at hx]
  obtain ⟨hri1, hri2, hri3⟩ := retally_inv (s.rc a t).got (gotW (s.rc a t).got wt) ((vrow (s.setR a t { (s.rc a t) with got := ⟨IntKind.i64.wrap ((((s.rc a t)).got.v) + wt.v), IntKind.i64.wrap ((((s.rc a t)).got.c) + wt.c)⟩ }) a t).take k) (s.setR a t { (s.rc a t) with got := ⟨IntKind.i64.wrap ((((s.rc a t)).got.v) + wt.v), IntKind.i64.wrap ((((s.rc a t)).got.c) + wt.c)⟩ })
  have hstp := retally_step (was := (s.rc a t).got) (now := (gotW (s.rc a t).got wt)) (s := (s.setR a t { (s.rc a t) with got := ⟨IntKind.i64.wrap ((((s.rc a t)).got.v) + wt.v), IntKind.i64.wrap ((((s.rc a t)).got.c) + wt.c)⟩ })) hx
  obtain ⟨dp58, hF57, hm56⟩ := Vot.recO (VotA.vot jv9) hgc12
  rw [show (retally (s.rc a t).got (gotW (s.rc a t).got wt) (s.setR a t { (s.rc a t) with got := ⟨IntKind.i64.wrap ((((s.rc a t)).got.v) + wt.v), IntKind.i64.wrap ((((s.rc a t)).got.c) + wt.c)⟩ }) ((vrow (s.setR a t { (s.rc a t) with got := ⟨IntKind.i64.wrap ((((s.rc a t)).got.v) + wt.v), IntKind.i64.wrap ((((s.rc a t)).got.c) + wt.c)⟩ }) a t).take k)).rc a t = r46 from (show (retally (s.rc a t).got (gotW (s.rc a t).got wt) (s.setR a t { (s.rc a t) with got := ⟨IntKind.i64.wrap ((((s.rc a t)).got.v) + wt.v), IntKind.i64.wrap ((((s.rc a t)).got.c) + wt.c)⟩ }) ((vrow (s.setR a t { (s.rc a t) with got := ⟨IntKind.i64.wrap ((((s.rc a t)).got.v) + wt.v), IntKind.i64.wrap ((((s.rc a t)).got.c) + wt.c)⟩ }) a t).take k)).rc a t = _ from by rw [hri2]; exact ((updR_self _ _ _ _).trans hr46.symm))] at hm56
  have hq7lt := hm56.lt
  have hloq7 := lt20 _ hF57
  have hoq7 := own21 _ hF57
  refine V_pick [(4, pt b1), (8, pt b26), (9, pt b33), (39, nt x.1), (40, .agg (Vt.cells x.2).toArray)] rfl ?_
  have hfen : Keep (fen w49.heap.size M1) W W := Keep.refl _ _
  have hzhfen := Keep.size hfen
  refine V_seq ?_
  refine V_region ?_
  refine OI_static 1 [(4, pt b1), (8, pt b26), (9, pt b33), (10, nt x.1), (40, .agg (Vt.cells x.2).toArray)] (by kernel_rfl) ?_
  refine OI_end rfl ?_
  refine X_then ?_
  refine V_region ?_
  refine OI_alloc 26 (.agg #[nt 0, .bool false, nt 0, nt 0, nt 0, nt 0]) [nt 0, .bool false, nt 0, nt 0, nt 0, nt 0] (some 11) (by kernel_rfl) (by kernel_rfl) (by kernel_rfl) ?_
  intro b59 w59 e59 hb59 k59 z59
  have hsz60 := Keep.size k59
  replace jb1 := jb1.keep k59 (fun f => f)
  replace jb3 := jb3.keep k59 (fun f => f)
  replace jb26 := jb26.keep k59 (fun f => f)
  replace jb33 := jb33.keep k59 (fun f => f)
  replace jbv51 := jbv51.keep k59 (fun f => f)
  replace jbw52 := jbw52.keep k59 (fun f => f)
  replace jbt53 := jbt53.keep k59 (fun f => f)
  replace hm56 := hm56.keep k59 (fun f => f)
  replace jhtd : ∀ x L, Blk w x L 89 → Blk w59 x L 89 := fun x L hx => Blk.keep (jhtd x L hx) k59 (fun f => f)
  replace jhK0 := Keep.tr jhK0 (Keep.ofNone k59)
  replace jv9 := VotA.keep jv9 k59 (fun _ _ f => f)
  replace hfen := Keep.tr hfen (Keep.ofNone k59)
  have hb59lt := hb59.lt
  refine OI_set (m := 6) (kd := true) 26 (.tmp 11) (.tmp 40) 0 (.agg (Vt.cells x.2).toArray) (Vt.cells x.2) none (by kernel_rfl) (by kernel_rfl) (by kernel_rfl) hb59 (by kernel_rfl) rfl (Vt.len _) (Nat.le_of_ble_eq_true (by kernel_rfl)) (Vt.one _) ?_
  intro w61 hb59_64 hk62 hz63
  replace hb59_64 : Blk w61 b59 (Vt.cells x.2) 26 := (by rwa [over_whole (by rw [Vt.len]; rfl)] at hb59_64)
  have hsz65 := Keep.size hk62
  replace jb1 := jb1.keep hk62 (by show ¬ (_ = _); omega)
  replace jb3 := jb3.keep hk62 (by show ¬ (_ = _); omega)
  replace jb26 := jb26.keep hk62 (by show ¬ (_ = _); omega)
  replace jb33 := jb33.keep hk62 (by show ¬ (_ = _); omega)
  replace jbv51 := jbv51.keep hk62 (by show ¬ (_ = _); omega)
  replace jbw52 := jbw52.keep hk62 (by show ¬ (_ = _); omega)
  replace jbt53 := jbt53.keep hk62 (by show ¬ (_ = _); omega)
  replace hm56 := hm56.keep hk62 (by show ¬ (_ = _); omega)
  replace jhtd : ∀ x L, Blk w x L 89 → Blk w61 x L 89 := fun x L hx => Blk.keep (jhtd x L hx) hk62 (Blk.ne (jhtd x L hx) hb59 (by decide))
  replace jhK0 := Keep.fresh jhK0 hk62 (by intro i hi hs; first | exact hs | exact Or.inl hs | exact Or.inr hs | (exfalso; have hs2 : i = b59 := hs; omega))
  replace jv9 := VotA.keep jv9 hk62 (fun q hq hs => by have hs : q = b59 := hs; have g0 := own21 q hq; have g1 := lt20 q hq; omega)
  replace hfen := Keep.fresh hfen hk62 (by intro i hi hs; have hs2 : i = b59 := hs; show _ ∨ _; omega)
  refine OI_end rfl ?_
  refine X_begin2 hfen ?_
  intro W2 hk2 ⟨r2, hr2⟩ hD2
  have hsz66 := Keep.size hk2
  replace jb1 := Blk.quiet jb1 hk2
  replace jb3 := Blk.quiet jb3 hk2
  replace jb26 := Blk.quiet jb26 hk2
  replace jb33 := Blk.quiet jb33 hk2
  replace jbv51 := Blk.quiet jbv51 hk2
  replace jbw52 := Blk.quiet jbw52 hk2
  replace jbt53 := Blk.quiet jbt53 hk2
  replace hm56 := Blk.quiet hm56 hk2
  replace hb59_64 := Blk.quiet hb59_64 hk2
  replace jhtd : ∀ x L, Blk w x L 89 → Blk W2 x L 89 := fun x L hx => Blk.quiet (jhtd x L hx) hk2
  replace jhK0 := Keep.quiet jhK0 hk2 (by omega)
  replace jv9 := VotA.quiet jv9 hk2
  have hzhk2 := Keep.size hk2
  have hfenb : Keep (fen w49.heap.size M1) W2 W2 := Keep.refl _ _
  have hzhfenb := Keep.size hfenb
  refine V_block ?_
  refine V_seq ?_
  refine V_region ?_
  refine OI_cell 29 (.tmp 4) 0 (pt v) (some 41) (by kernel_rfl) (by kernel_rfl) jb1 (m := 1) (by kernel_rfl) rfl ?_
  refine OI_static 2 [(8, pt b26), (9, pt b33), (11, pt b59), (41, pt v), (42, nt x.1)] (by kernel_rfl) ?_
  rcases Vot.pollcase (VotA.vot jv9) x.1 with ⟨hpn67, hpc67⟩ | ⟨i67, b67, q67, hpr67, hpi67, hpp67, hps67, hpa67⟩
  · exact absurd (VotA.pthere jv9 hri1 hx) (by rw [hpn67]; rintro ⟨_, h⟩; cases h)
  ·
   refine OI_call { callee := (Callee.value (Operand.func 23)), args := #[(Operand.tmp 41), (Operand.tmp 42)], argTypes := #[29, 3] } 23 #[pt v, nt x.1] (some 43) (by kernel_rfl) (by kernel_rfl) (by kernel_rfl) ((by rw [hpr67]; exact poll_some F9 v P8 (retally (s.rc a t).got (gotW (s.rc a t).got wt) (s.setR a t { (s.rc a t) with got := ⟨IntKind.i64.wrap ((((s.rc a t)).got.v) + wt.v), IntKind.i64.wrap ((((s.rc a t)).got.c) + wt.c)⟩ }) ((vrow (s.setR a t { (s.rc a t) with got := ⟨IntKind.i64.wrap ((((s.rc a t)).got.v) + wt.v), IntKind.i64.wrap ((((s.rc a t)).got.c) + wt.c)⟩ }) a t).take k)) i67 b67 _ (VotA.vot jv9) hpi67 hpp67)) ?_
   rintro _ w68 ⟨rfl, hk69⟩
   refine ⟨_, rfl, ?_⟩
   have hsz70 := Keep.size hk69
   replace jb1 := jb1.keep hk69 (fun f => f)
   replace jb3 := jb3.keep hk69 (fun f => f)
   replace jb26 := jb26.keep hk69 (fun f => f)
   replace jb33 := jb33.keep hk69 (fun f => f)
   replace jbv51 := jbv51.keep hk69 (fun f => f)
   replace jbw52 := jbw52.keep hk69 (fun f => f)
   replace jbt53 := jbt53.keep hk69 (fun f => f)
   replace hm56 := hm56.keep hk69 (fun f => f)
   replace hb59_64 := hb59_64.keep hk69 (fun f => f)
   replace jhtd : ∀ x L, Blk w x L 89 → Blk w68 x L 89 := fun x L hx => Blk.keep (jhtd x L hx) hk69 (fun f => f)
   replace jhK0 := Keep.tr jhK0 (Keep.ofNone hk69)
   replace jv9 := VotA.keep jv9 hk69 (fun _ _ f => f)
   replace hfenb := Keep.tr hfenb (Keep.ofNone hk69)
   obtain ⟨hm71, hF72⟩ := Vot.pollB (VotA.vot jv9) hpp67 hps67
   have hb67lt := hm71.lt
   have hlob67 := lt20 _ hF72
   have hob67 := own21 _ hF72
   have hneb67q7 : b67 ≠ q7 := Blk.ne hm71 hm56 (by decide)
   refine OI_static 4 [(8, pt b26), (9, pt b33), (11, pt b59), (12, pt b67)] (by kernel_rfl) ?_
   refine OI_end rfl ?_
   refine X_then ?_
   refine V_seq ?_
   refine V_region ?_
   refine OI_static 3 [(8, pt b26), (9, pt b33), (11, pt b59), (12, pt b67), (46, .pointer (some ⟨b67, 4, none⟩))] (by kernel_rfl) ?_
   refine OI_cell 3 (.tmp 46) 4 (nt ((q67).state)) (some 47) (by kernel_rfl) (by kernel_rfl) hm71 (m := 1) (by kernel_rfl) rfl ?_
   refine OI_static 5 [(8, pt b26), (9, pt b33), (11, pt b59), (12, pt b67), (48, .bool (decide ((q67).state = 0)))] (by kernel_rfl) ?_
   refine OI_end rfl ?_
   refine X_then ?_
   refine V_if ((q67).state = 0) (by kernel_rfl) (fun hc73 => ?_) (fun hc73 => ?_)
   ·
    refine V_draws (acts [7, 8, 14, 15, 16, 19]) none_ [[5, 6, 7, 1, 2, 3, 4, 8, 9, 10, 11, 12, 13, 14, 15, 16, 0, 17, 18, 19]] (by kernel_rfl) (by repeat first | exact (by first | exact sure_postM | exact sure_rQ2 | exact sure_no) | refine sure_then ?_ | refine sure_block ?_ | refine sure_join ?_) (by kernel_rfl) ?_
    intro w75 hk74 he76 L hL77
    have hsz78 := Keep.size hk74
    replace jb1 := jb1.keep hk74 (fun f => f)
    replace jb3 := jb3.keep hk74 (fun f => f)
    replace jb26 := jb26.keep hk74 (fun f => f)
    replace jb33 := jb33.keep hk74 (fun f => f)
    replace jbv51 := jbv51.keep hk74 (fun f => f)
    replace jbw52 := jbw52.keep hk74 (fun f => f)
    replace jbt53 := jbt53.keep hk74 (fun f => f)
    replace hm56 := hm56.keep hk74 (fun f => f)
    replace hb59_64 := hb59_64.keep hk74 (fun f => f)
    replace hm71 := hm71.keep hk74 (fun f => f)
    replace jhtd : ∀ x L, Blk w x L 89 → Blk w75 x L 89 := fun x L hx => Blk.keep (jhtd x L hx) hk74 (fun f => f)
    replace jhK0 := Keep.tr jhK0 (Keep.ofNone hk74)
    replace jv9 := VotA.keep jv9 hk74 (fun _ _ f => f)
    replace hfenb := Keep.tr hfenb (Keep.ofNone hk74)
    have qjb1 := jb1
    have qjb3 := jb3
    have qjb26 := jb26
    have qjb33 := jb33
    have qjbv51 := jbv51
    have qjbw52 := jbw52
    have qjbt53 := jbt53
    have qhm56 := hm56
    have qhb59_64 := hb59_64
    have qhm71 := hm71
    have K79 : Keep none_ w75 w75 := Keep.refl _ _
    obtain rfl := List.mem_singleton.1 hL77
    refine GI_agg 26 (.tmp 11) 0 (Vt.cells x.2) (some 54) (by kernel_rfl) (by kernel_rfl) (by kernel_rfl) qhb59_64 (fun f => f) (m := 6) (by kernel_rfl) (take_all (Vt.len _)) (Vt.len _) ?_
    refine GI_agg 74 (.tmp 9) 0 [nt (((s.rc a t)).got.v), nt (((s.rc a t)).got.c)] (some 55) (by kernel_rfl) (by kernel_rfl) (by kernel_rfl) qjb33 (fun f => f) (m := 2) (by kernel_rfl) rfl rfl ?_
    refine GI_call { callee := (Callee.value (Operand.func 32)), args := #[(Operand.tmp 54), (Operand.tmp 55)], argTypes := #[26, 74] } 32 #[.agg (Vt.cells x.2).toArray, .agg #[nt (((s.rc a t)).got.v), nt (((s.rc a t)).got.c)]] (some 56) (by kernel_rfl) (by kernel_rfl) (by kernel_rfl) (by kernel_rfl) (cvGain_spec x.2 (((s.rc a t)).got) _) ?_
    rintro _ w80 ⟨rfl, hk81⟩
    have K82 := K79.tr (Keep.ofNone hk81)
    refine ⟨_, rfl, K82, ?_⟩
    have hzK82 := Keep.size K82
    have hsz83 := Keep.size hk81
    replace jb1 := jb1.keep hk81 (fun f => f)
    replace jb3 := jb3.keep hk81 (fun f => f)
    replace jb26 := jb26.keep hk81 (fun f => f)
    replace jb33 := jb33.keep hk81 (fun f => f)
    replace jbv51 := jbv51.keep hk81 (fun f => f)
    replace jbw52 := jbw52.keep hk81 (fun f => f)
    replace jbt53 := jbt53.keep hk81 (fun f => f)
    replace hm56 := hm56.keep hk81 (fun f => f)
    replace hb59_64 := hb59_64.keep hk81 (fun f => f)
    replace hm71 := hm71.keep hk81 (fun f => f)
    replace jhtd : ∀ x L, Blk w x L 89 → Blk w80 x L 89 := fun x L hx => Blk.keep (jhtd x L hx) hk81 (fun f => f)
    replace jhK0 := Keep.tr jhK0 (Keep.ofNone hk81)
    replace jv9 := VotA.keep jv9 hk81 (fun _ _ f => f)
    replace hfenb := Keep.tr hfenb (Keep.ofNone hk81)
    refine GI_static [4, 8, 9, 10, 11, 12, 13, 14, 15, 16, 0, 17, 18, 19] [(8, pt b26), (11, pt b59), (12, pt b67), (52, .pointer (some ⟨b67, 1, none⟩)), (56, .agg (Tly.cells (gainT x.2 (((s.rc a t)).got))).toArray)] (by kernel_rfl) ?_
    refine GI_agg 43 (.tmp 52) 1 [nt ((q67).t.a), nt ((q67).t.n), nt ((q67).t.s)] (some 53) (by kernel_rfl) (by kernel_rfl) (by kernel_rfl) qhm71 (fun f => f) (m := 3) (by kernel_rfl) rfl rfl ?_
    refine GI_call { callee := (Callee.value (Operand.func 31)), args := #[(Operand.tmp 53), (Operand.tmp 56)], argTypes := #[43, 43] } 31 #[.agg #[nt ((q67).t.a), nt ((q67).t.n), nt ((q67).t.s)], .agg (Tly.cells (gainT x.2 (((s.rc a t)).got))).toArray] (some 57) (by kernel_rfl) (by kernel_rfl) (by kernel_rfl) (by kernel_rfl) (cvSub_spec ((q67).t) (gainT x.2 (((s.rc a t)).got)) _) ?_
    rintro _ w84 ⟨rfl, hk85⟩
    have K86 := K82.tr (Keep.ofNone hk85)
    refine ⟨_, rfl, K86, ?_⟩
    have hzK86 := Keep.size K86
    have hsz87 := Keep.size hk85
    replace jb1 := jb1.keep hk85 (fun f => f)
    replace jb3 := jb3.keep hk85 (fun f => f)
    replace jb26 := jb26.keep hk85 (fun f => f)
    replace jb33 := jb33.keep hk85 (fun f => f)
    replace jbv51 := jbv51.keep hk85 (fun f => f)
    replace jbw52 := jbw52.keep hk85 (fun f => f)
    replace jbt53 := jbt53.keep hk85 (fun f => f)
    replace hm56 := hm56.keep hk85 (fun f => f)
    replace hb59_64 := hb59_64.keep hk85 (fun f => f)
    replace hm71 := hm71.keep hk85 (fun f => f)
    replace jhtd : ∀ x L, Blk w x L 89 → Blk w84 x L 89 := fun x L hx => Blk.keep (jhtd x L hx) hk85 (fun f => f)
    replace jhK0 := Keep.tr jhK0 (Keep.ofNone hk85)
    replace jv9 := VotA.keep jv9 hk85 (fun _ _ f => f)
    replace hfenb := Keep.tr hfenb (Keep.ofNone hk85)
    refine GI_agg 26 (.tmp 11) 0 (Vt.cells x.2) (some 58) (by kernel_rfl) (by kernel_rfl) (by kernel_rfl) qhb59_64 (fun f => f) (m := 6) (by kernel_rfl) (take_all (Vt.len _)) (Vt.len _) ?_
    refine GI_cell 68 (.tmp 8) 0 (pt q7) (some 59) (by kernel_rfl) (by kernel_rfl) (by kernel_rfl) qjb26 (fun f => f) (m := 1) (by kernel_rfl) rfl ?_
    refine GI_static [13, 14, 15, 16, 0, 17, 18, 19] [(12, pt b67), (57, .agg (Tly.cells (subT ((q67).t) (gainT x.2 (((s.rc a t)).got)))).toArray), (58, .agg (Vt.cells x.2).toArray), (61, .pointer (some ⟨q7, 1, none⟩))] (by kernel_rfl) ?_
    refine GI_agg 74 (.tmp 61) 1 [nt ((r46).got.v), nt ((r46).got.c)] (some 62) (by kernel_rfl) (by kernel_rfl) (by kernel_rfl) qhm56 (fun f => f) (m := 2) (by kernel_rfl) rfl rfl ?_
    refine GI_call { callee := (Callee.value (Operand.func 32)), args := #[(Operand.tmp 58), (Operand.tmp 62)], argTypes := #[26, 74] } 32 #[.agg (Vt.cells x.2).toArray, .agg #[nt ((r46).got.v), nt ((r46).got.c)]] (some 63) (by kernel_rfl) (by kernel_rfl) (by kernel_rfl) (by kernel_rfl) (cvGain_spec x.2 ((r46).got) _) ?_
    rintro _ w88 ⟨rfl, hk89⟩
    have K90 := K86.tr (Keep.ofNone hk89)
    refine ⟨_, rfl, K90, ?_⟩
    have hzK90 := Keep.size K90
    have hsz91 := Keep.size hk89
    replace jb1 := jb1.keep hk89 (fun f => f)
    replace jb3 := jb3.keep hk89 (fun f => f)
    replace jb26 := jb26.keep hk89 (fun f => f)
    replace jb33 := jb33.keep hk89 (fun f => f)
    replace jbv51 := jbv51.keep hk89 (fun f => f)
    replace jbw52 := jbw52.keep hk89 (fun f => f)
    replace jbt53 := jbt53.keep hk89 (fun f => f)
    replace hm56 := hm56.keep hk89 (fun f => f)
    replace hb59_64 := hb59_64.keep hk89 (fun f => f)
    replace hm71 := hm71.keep hk89 (fun f => f)
    replace jhtd : ∀ x L, Blk w x L 89 → Blk w88 x L 89 := fun x L hx => Blk.keep (jhtd x L hx) hk89 (fun f => f)
    replace jhK0 := Keep.tr jhK0 (Keep.ofNone hk89)
    replace jv9 := VotA.keep jv9 hk89 (fun _ _ f => f)
    replace hfenb := Keep.tr hfenb (Keep.ofNone hk89)
    refine GI_slit (E := 43) (zv := .agg #[nt 0, nt 0, nt 0]) (sz := 3) (by_ := 24) 129 1 #[(0, (Operand.tmp 63))] [.agg (Tly.cells (gainT x.2 ((r46).got))).toArray] (Tly.cells (gainT x.2 ((r46).got))) (some 64) (by kernel_rfl) (by kernel_rfl) K90 (by kernel_rfl) (by kernel_rfl) (by omega) rfl (by omega) (by intro v hv; obtain rfl := List.mem_singleton.1 hv; show (Tly.cells (gainT x.2 ((r46).got))).toArray.size = 3; simp [Tly.len]) (by kernel_rfl) (by show (Tly.cells (gainT x.2 ((r46).got))).toArray.toList ++ [] = _; simp) ?_
    intro b92 w92 e92 hb92 k92 z92 K93
    have hsz94 := Keep.size k92
    replace jb1 := jb1.keep k92 (fun f => f)
    replace jb3 := jb3.keep k92 (fun f => f)
    replace jb26 := jb26.keep k92 (fun f => f)
    replace jb33 := jb33.keep k92 (fun f => f)
    replace jbv51 := jbv51.keep k92 (fun f => f)
    replace jbw52 := jbw52.keep k92 (fun f => f)
    replace jbt53 := jbt53.keep k92 (fun f => f)
    replace hm56 := hm56.keep k92 (fun f => f)
    replace hb59_64 := hb59_64.keep k92 (fun f => f)
    replace hm71 := hm71.keep k92 (fun f => f)
    replace jhtd : ∀ x L, Blk w x L 89 → Blk w92 x L 89 := fun x L hx => Blk.keep (jhtd x L hx) k92 (fun f => f)
    replace jhK0 := Keep.tr jhK0 (Keep.ofNone k92)
    replace jv9 := VotA.keep jv9 k92 (fun _ _ f => f)
    replace hfenb := Keep.tr hfenb (Keep.ofNone k92)
    have hb92lt := hb92.lt
    refine GI_call { callee := (Callee.value (Operand.func 33)), args := #[(Operand.tmp 57), (Operand.tmp 64)], argTypes := #[43, 129] } 33 #[.agg (Tly.cells (subT ((q67).t) (gainT x.2 (((s.rc a t)).got)))).toArray, .slice (some ⟨b92, 0, none⟩) 1 1] (some 65) (by kernel_rfl) (by kernel_rfl) (by kernel_rfl) (by kernel_rfl) (cvAdd1 b92 (subT ((q67).t) (gainT x.2 (((s.rc a t)).got))) (gainT x.2 ((r46).got)) _ _ hb92) ?_
    rintro _ w97 ⟨rfl, hk98⟩
    have K99 := K93.tr (Keep.ofNone hk98)
    refine ⟨_, rfl, K99, ?_⟩
    have hzK99 := Keep.size K99
    have hsz100 := Keep.size hk98
    replace jb1 := jb1.keep hk98 (fun f => f)
    replace jb3 := jb3.keep hk98 (fun f => f)
    replace jb26 := jb26.keep hk98 (fun f => f)
    replace jb33 := jb33.keep hk98 (fun f => f)
    replace jbv51 := jbv51.keep hk98 (fun f => f)
    replace jbw52 := jbw52.keep hk98 (fun f => f)
    replace jbt53 := jbt53.keep hk98 (fun f => f)
    replace hm56 := hm56.keep hk98 (fun f => f)
    replace hb59_64 := hb59_64.keep hk98 (fun f => f)
    replace hm71 := hm71.keep hk98 (fun f => f)
    replace hb92 := hb92.keep hk98 (fun f => f)
    replace jhtd : ∀ x L, Blk w x L 89 → Blk w97 x L 89 := fun x L hx => Blk.keep (jhtd x L hx) hk98 (fun f => f)
    replace jhK0 := Keep.tr jhK0 (Keep.ofNone hk98)
    replace jv9 := VotA.keep jv9 hk98 (fun _ _ f => f)
    replace hfenb := Keep.tr hfenb (Keep.ofNone hk98)
    refine GI_static [19] [(65, .agg (Tly.cells (addT (subT ((q67).t) (gainT x.2 (((s.rc a t)).got))) (gainT x.2 ((r46).got)))).toArray), (67, .pointer (some ⟨b67, 1, none⟩))] (by kernel_rfl) ?_
    refine GI_final 19 (by kernel_rfl) (by kernel_rfl) ?_
    refine OI_set (m := 3) (kd := true) 43 (.tmp 67) (.tmp 65) 1 (.agg (Tly.cells (addT (subT ((q67).t) (gainT x.2 (((s.rc a t)).got))) (gainT x.2 ((r46).got)))).toArray) (Tly.cells (addT (subT ((q67).t) (gainT x.2 (((s.rc a t)).got))) (gainT x.2 ((r46).got)))) none (by kernel_rfl) (by kernel_rfl) (by kernel_rfl) hm71 (by kernel_rfl) rfl (Tly.len _) (Nat.le_of_ble_eq_true (by kernel_rfl)) (Tly.one _) ?_
    intro w101 hn104 hk102 hz103
    replace hn104 : Blk w101 b67 (PollS.cells { q67 with t := (addT (subT ((q67).t) (gainT x.2 (((s.rc a t)).got))) (gainT x.2 ((r46).got))) }) 61 := hn104
    have hsz105 := Keep.size hk102
    replace jb1 := jb1.keep hk102 (by show ¬ (b1 = b67); omega)
    replace jb3 := jb3.keep hk102 (by show ¬ (b3 = b67); omega)
    replace jb26 := jb26.keep hk102 (by show ¬ (b26 = b67); omega)
    replace jb33 := jb33.keep hk102 (by show ¬ (b33 = b67); omega)
    replace jbv51 := jbv51.keep hk102 (by show ¬ (bv51 = b67); omega)
    replace jbw52 := jbw52.keep hk102 (by show ¬ (bw52 = b67); omega)
    replace jbt53 := jbt53.keep hk102 (by show ¬ (bt53 = b67); omega)
    replace hm56 := hm56.keep hk102 (by show ¬ (q7 = b67); omega)
    replace hb59_64 := hb59_64.keep hk102 (by show ¬ (b59 = b67); omega)
    replace hb92 := hb92.keep hk102 (by show ¬ (b92 = b67); omega)
    replace jhtd : ∀ x L, Blk w x L 89 → Blk w101 x L 89 := fun x L hx => Blk.keep (jhtd x L hx) hk102 (Blk.ne (jhtd x L hx) hm71 (by decide))
    replace jhK0 := Keep.fresh jhK0 hk102 (fun i hi hs => by have hs : F9 i := (by rw [show i = b67 from hs]; exact hF72); rcases rel22 i hs with h | h; exact h; (exfalso; omega))
    replace hfenb := Keep.fresh hfenb hk102 (by intro i hi hs; have hs2 : i = b67 := hs; show _ ∨ _; omega)
    obtain ⟨tv107, htv107⟩ : ∃ t9 : Tly, t9 = (addT (subT ((q67).t) (gainT x.2 (((s.rc a t)).got))) (gainT x.2 ((r46).got))) := ⟨_, rfl⟩
    rw [← htv107] at hn104
    have ho106 := VotA.setPoll jv9 hpp67 hps67 hk102 (show Blk _ _ (PollS.cells { q67 with t := tv107 }) _ from hn104)
    have hs108 : ((retally (s.rc a t).got (gotW (s.rc a t).got wt) (s.setR a t { (s.rc a t) with got := ⟨IntKind.i64.wrap ((((s.rc a t)).got.v) + wt.v), IntKind.i64.wrap ((((s.rc a t)).got.c) + wt.c)⟩ }) ((vrow (s.setR a t { (s.rc a t) with got := ⟨IntKind.i64.wrap ((((s.rc a t)).got.v) + wt.v), IntKind.i64.wrap ((((s.rc a t)).got.c) + wt.c)⟩ }) a t).take k)).setP i67 { q67 with t := tv107 }).ps[i67]? = some (some { q67 with t := tv107 }) := List.getElem?_set_self (List.getElem?_eq_some_iff.1 hps67).1
    have hb67lt := hn104.lt
    refine OI_end rfl ?_
    refine X_block ?_
    have hnow : r46.got = (gotW (s.rc a t).got wt) := by rw [hr46]; rfl
    rw [htv107, hnow] at ho106
    exact fun a _ => ⟨hfenb, jb1, jb3, jb26, jb33, jbv51, jbw52, jbt53, jhtd, jhK0, by rw [hstp]; unfold retally1; rw [hpr67, Int.toNat_natCast, hps67]; dsimp only; rw [if_pos hc73]; exact ho106⟩
   ·
    refine V_skip ?_
    refine X_block ?_
    exact fun a _ => ⟨hfenb, jb1, jb3, jb26, jb33, jbv51, jbw52, jbt53, jhtd, jhK0, by rw [hstp]; unfold retally1; rw [hpr67, Int.toNat_natCast, hps67]; dsimp only; rw [if_neg hc73]; exact jv9⟩
 ·
  intro D M1 W hD hM ⟨jb1, jb3, jb26, jb33, jbv51, jbw52, jbt53, jhtd, jhK0, jv9⟩ hDD
  have hzjhK0 := Keep.size jhK0
  have hb1lt := jb1.lt
  have hb3lt := jb3.lt
  have hb26lt := jb26.lt
  have hb33lt := jb33.lt
  have hbv51lt := jbv51.lt
  have hbw52lt := jbw52.lt
  have hbt53lt := jbt53.lt
  rw [List.take_length] at jv9
  refine X_block ?_
  have hfin : getsS s a t wt = (retally (s.rc a t).got (gotW (s.rc a t).got wt) (s.setR a t { (s.rc a t) with got := ⟨IntKind.i64.wrap ((((s.rc a t)).got.v) + wt.v), IntKind.i64.wrap ((((s.rc a t)).got.c) + wt.c)⟩ }) (vrow (s.setR a t { (s.rc a t) with got := ⟨IntKind.i64.wrap ((((s.rc a t)).got.v) + wt.v), IntKind.i64.wrap ((((s.rc a t)).got.c) + wt.c)⟩ }) a t)) := rfl
  exact leave1 (.tuple #[]) (.inr rfl) hDD (fun w' hk => ⟨res_tmps rfl, ⟨rfl, P8, hpp13, hgv14, hmn15, (fun x L hx => Blk.quiet (jhtd x L hx) hk), ⟨F9, by rw [hfin]; exact Vot.quiet (VotA.vot jv9) hk, rel22⟩, Keep.quiet jhK0 hk (by omega)⟩⟩)
end Go.Al


namespace Go.Al
open Go Go.RowKit Go.Proofs
/-- Each poll has a track that is one. -/
def TrkOk (s : VS) : Prop := ∀ (i : Nat) q, s.ps[i]? = some (some q) → 0 ≤ q.track ∧ q.track < 4
def voteE (xs : List Acc) (s : VS) (who ref : Int) (x : Vt) : Int := if ¬ (0 ≤ who ∧ who ≤ 9) ∨ ¬ okV x then 1 else match pollAt s ref with
  | none => 4
  | some q => if ¬ q.state = 0 then 9 else if (s.rc who q.track).d.isSome = true then 5 else if capI x > (acct xs who).free then 6 else if (GV.getC who ref s.cs).isSome = false ∧ (((vrow s who q.track).length : Nat) : Int) ≥ 6 then 3 else 0
def voteT (s : VS) (who ref : Int) (x : Vt) (q : PollS) : Tly := addT (if (GV.getC who ref s.cs).isSome = true then subT q.t (gainT ((GV.getC who ref s.cs).getD Vt.zero) (s.rc who q.track).got) else q.t) (gainT x (s.rc who q.track).got)
def voteS (xs : List Acc) (s : VS) (who ref : Int) (x : Vt) : VS := if voteE xs s who ref x = 0 then (match pollAt s ref with | none => s | some q => { s.setP ref.toNat { q with t := voteT s who ref x q } with cs := GV.setC who ref x s.cs }) else s
def voteC (xs : List Acc) (cs : List Ci) (s : VS) (who ref : Int) (x : Vt) : List Ci := if voteE xs s who ref x = 0 then (match pollAt s ref with | none => cs | some q => raiseC cs who q.track (capI x)) else cs

set_option maxRecDepth 10000 in
set_option maxHeartbeats 1000000 in
theorem vote_at (F G : Nat → Prop) (v l : Nat) (P : VP) (s : VS) (xs : List Acc) (cs : List Ci) (who ref : Int) (x : Vt) (w : World) (h : Vot F w v P s) (hl : Led G w l xs cs) (hdis : ∀ q, F q → ¬ G q) (htr : TrkOk s) (hmax : cs.length < 100000) : Calls Try.prog 9 #[.pointer (some ⟨v, 0, none⟩), .pointer (some ⟨l, 0, none⟩), .int .i64 who, .int .i64 ref, .agg x.cells.toArray] w fun e w' => e = .returned (.int .i64 (voteE xs s who ref x)) ∧ (∃ F' G', VotE F' w' v (voteS xs s who ref x) ∧ Led G' w' l xs (voteC xs cs s who ref x) ∧ (∀ q, F' q → F q ∨ w.heap.size ≤ q) ∧ (∀ q, G' q → G q ∨ w.heap.size ≤ q) ∧ (∀ q, F' q → ¬ G' q)) ∧ Keep (fun q => F q ∨ G q) w w' := by
 have hFlt := Vot.lt h
 have hvlt := hFlt _ (Vot.at_ h)
 have hFo : ∀ q, F q → 0 ≤ q := fun q _ => Nat.zero_le q
 have hFr : ∀ q, F q → F q ∨ w.heap.size ≤ q := fun _ h => .inl h
 have hGlt := Led.lt hl
 have hllt := hGlt _ (Led.at_ hl)
 have hGo : ∀ q, G q → 0 ≤ q := fun q _ => Nat.zero_le q
 have hGr : ∀ q, G q → G q ∨ w.heap.size ≤ q := fun _ h => .inl h
 obtain ⟨hvl0, hvb⟩ := Vot.vblk h
 have hFv := Vot.at_ h
 have hK0 : Keep (fun q => F q ∨ G q) w w := Keep.refl _ _
 have hzhK0 := Keep.size hK0
 refine enterV Try.func9 rfl [pt v, pt l, nt who, nt ref, .agg (Vt.cells x).toArray] 133 rfl rfl rfl ?_
 refine V_pick [(0, pt v), (1, pt l), (2, nt who), (3, nt ref), (4, .agg (Vt.cells x).toArray)] rfl ?_
 refine V_seq ?_
 refine V_region ?_
 refine OI_box 26 (.tmp 4) (.agg (Vt.cells x).toArray) (Vt.cells x) (some 9) (by kernel_rfl) (by kernel_rfl) rfl ?_
 intro b1 w1 e1 hb1 k1 z1
 have hsz2 := Keep.size k1
 replace hvb := hvb.keep k1 (fun f => f)
 replace h := Vot.keep h k1 (fun _ _ f => f)
 replace hl := Led.keep hl k1 (fun _ _ f => f)
 replace hK0 := Keep.tr hK0 (Keep.ofNone k1)
 have hb1lt := hb1.lt
 refine OI_static 2 [(0, pt v), (1, pt l), (2, nt who), (3, nt ref), (9, pt b1)] (by kernel_rfl) ?_
 refine OI_end rfl ?_
 refine X_then ?_
 refine V_seq ?_
 refine V_seq ?_
 refine V_region ?_
 refine OI_static 8 [(0, pt v), (1, pt l), (2, nt who), (3, nt ref), (9, pt b1), (21, .bool false), (22, nt who)] (by kernel_rfl) ?_
 refine OI_call { callee := (Callee.value (Operand.func 24)), args := #[(Operand.tmp 22)], argTypes := #[3] } 24 #[nt who] (some 23) (by kernel_rfl) (by kernel_rfl) (by kernel_rfl) (isAcc_spec who _) ?_
 rintro _ w1 ⟨rfl, rfl⟩
 refine ⟨_, rfl, ?_⟩
 refine OI_static 12 [(0, pt v), (1, pt l), (2, nt who), (3, nt ref), (9, pt b1), (26, .bool (!(decide (0 ≤ who ∧ who ≤ 9))))] (by kernel_rfl) ?_
 by_cases hg8 : 0 ≤ who ∧ who ≤ 9
 ·
  refine OI_eq [(0, pt v), (1, pt l), (2, nt who), (3, nt ref), (9, pt b1), (26, .bool false)] (by first | simp [hg8] | rfl) ?_
  refine OI_agg 26 (.tmp 9) 0 (Vt.cells x) (some 27) (by kernel_rfl) (by kernel_rfl) hb1 (m := 6) (by kernel_rfl) (take_all (Vt.len _)) (Vt.len _) ?_
  refine OI_call { callee := (Callee.value (Operand.func 25)), args := #[(Operand.tmp 27)], argTypes := #[26] } 25 #[.agg (Vt.cells x).toArray] (some 28) (by kernel_rfl) (by kernel_rfl) (by kernel_rfl) (cvIs_spec x _) ?_
  rintro _ w11 ⟨rfl, hk12⟩
  refine ⟨_, rfl, ?_⟩
  have hsz13 := Keep.size hk12
  replace hvb := hvb.keep hk12 (fun f => f)
  replace hb1 := hb1.keep hk12 (fun f => f)
  replace h := Vot.keep h hk12 (fun _ _ f => f)
  replace hl := Led.keep hl hk12 (fun _ _ f => f)
  replace hK0 := Keep.tr hK0 (Keep.ofNone hk12)
  refine OI_static 16 [(0, pt v), (1, pt l), (2, nt who), (3, nt ref), (9, pt b1), (30, .bool (!(decide (okV x))))] (by kernel_rfl) ?_
  refine OI_end rfl ?_
  refine X_then ?_
  refine V_not (okV x) (by kernel_rfl) (fun hc14 => ?_) (fun hc14 => ?_)
  ·
   refine V_seq ?_
   refine V_region ?_
   refine OI_static 1 [(10, nt 1)] (by kernel_rfl) ?_
   refine OI_end rfl ?_
   refine X_then ?_
   refine V_ret ?_
   refine X_ret_then ?_
   have hE15 : voteE xs s who ref x = 1 := by unfold voteE; rw [if_pos (.inr (hc14))]
   exact X_return (nt 1) rfl ⟨by rw [hE15], ⟨F, G, ⟨_, by rw [show voteS xs s who ref x = s from by unfold voteS; rw [hE15, if_neg (by decide)]]; exact h⟩, by rw [show voteC xs cs s who ref x = cs from by unfold voteC; rw [hE15, if_neg (by decide)]]; exact hl, hFr, hGr, hdis⟩, hK0⟩
  ·
   refine V_skip ?_
   refine X_then ?_
   refine V_seq ?_
   refine V_region ?_
   refine OI_static 2 [(0, pt v), (1, pt l), (2, nt who), (3, nt ref), (9, pt b1), (31, pt v), (32, nt ref)] (by kernel_rfl) ?_
   rcases Vot.pollcase h ref with ⟨hpn16, hpc16⟩ | ⟨i16, b16, q16, hpr16, hpi16, hpp16, hps16, hpa16⟩
   ·
    refine OI_call { callee := (Callee.value (Operand.func 23)), args := #[(Operand.tmp 31), (Operand.tmp 32)], argTypes := #[29, 3] } 23 #[pt v, nt ref] (some 33) (by kernel_rfl) (by kernel_rfl) (by kernel_rfl) (poll_none F v P s ref _ h hpc16) ?_
    rintro _ w19 ⟨rfl, hk20⟩
    refine ⟨_, rfl, ?_⟩
    have hsz21 := Keep.size hk20
    replace hvb := hvb.keep hk20 (fun f => f)
    replace hb1 := hb1.keep hk20 (fun f => f)
    replace h := Vot.keep h hk20 (fun _ _ f => f)
    replace hl := Led.keep hl hk20 (fun _ _ f => f)
    replace hK0 := Keep.tr hK0 (Keep.ofNone hk20)
    refine OI_static 4 [(0, pt v), (1, pt l), (2, nt who), (3, nt ref), (9, pt b1), (11, .pointer none)] (by kernel_rfl) ?_
    refine OI_end rfl ?_
    refine X_then ?_
    refine V_seq ?_
    refine V_block ?_
    refine V_seq ?_
    refine V_region ?_
    refine OI_static 3 [(0, pt v), (1, pt l), (2, nt who), (3, nt ref), (9, pt b1), (11, .pointer none), (34, .bool true)] (by kernel_rfl) ?_
    refine OI_end rfl ?_
    refine X_then ?_
    refine V_true rfl ?_
    refine V_seq ?_
    refine V_region ?_
    refine OI_static 1 [(10, nt 4)] (by kernel_rfl) ?_
    refine OI_end rfl ?_
    refine X_then ?_
    refine V_ret ?_
    refine X_ret_block ?_
    refine X_ret_then ?_
    have hE22 : voteE xs s who ref x = 4 := by unfold voteE; rw [if_neg (by rintro (h9 | h9); exact h9 hg8; exact h9 hc14)]; rw [hpn16]
    exact X_return (nt 4) rfl ⟨by rw [hE22], ⟨F, G, ⟨_, by rw [show voteS xs s who ref x = s from by unfold voteS; rw [hE22, if_neg (by decide)]]; exact h⟩, by rw [show voteC xs cs s who ref x = cs from by unfold voteC; rw [hE22, if_neg (by decide)]]; exact hl, hFr, hGr, hdis⟩, hK0⟩
   ·
    refine OI_call { callee := (Callee.value (Operand.func 23)), args := #[(Operand.tmp 31), (Operand.tmp 32)], argTypes := #[29, 3] } 23 #[pt v, nt ref] (some 33) (by kernel_rfl) (by kernel_rfl) (by kernel_rfl) ((by rw [hpr16]; exact poll_some F v P s i16 b16 _ h hpi16 hpp16)) ?_
    rintro _ w25 ⟨rfl, hk26⟩
    refine ⟨_, rfl, ?_⟩
    have hsz27 := Keep.size hk26
    replace hvb := hvb.keep hk26 (fun f => f)
    replace hb1 := hb1.keep hk26 (fun f => f)
    replace h := Vot.keep h hk26 (fun _ _ f => f)
    replace hl := Led.keep hl hk26 (fun _ _ f => f)
    replace hK0 := Keep.tr hK0 (Keep.ofNone hk26)
    obtain ⟨hm28, hF29⟩ := Vot.pollB h hpp16 hps16
    have hb16lt := hm28.lt
    have hlob16 := hFlt _ hF29
    have hob16 := hFo _ hF29
    have hneb16v : b16 ≠ v := Blk.ne hm28 hvb (by decide)
    refine OI_static 4 [(0, pt v), (1, pt l), (2, nt who), (3, nt ref), (9, pt b1), (11, pt b16)] (by kernel_rfl) ?_
    refine OI_end rfl ?_
    refine X_then ?_
    refine V_seq ?_
    refine V_block ?_
    refine V_seq ?_
    refine V_region ?_
    refine OI_static 3 [(0, pt v), (1, pt l), (2, nt who), (3, nt ref), (9, pt b1), (11, pt b16), (34, .bool false)] (by kernel_rfl) ?_
    refine OI_end rfl ?_
    refine X_then ?_
    refine V_false rfl ?_
    refine V_seq ?_
    refine V_region ?_
    refine OI_static 3 [(0, pt v), (1, pt l), (2, nt who), (3, nt ref), (9, pt b1), (11, pt b16), (40, .pointer (some ⟨b16, 4, none⟩))] (by kernel_rfl) ?_
    refine OI_cell 3 (.tmp 40) 4 (nt ((q16).state)) (some 41) (by kernel_rfl) (by kernel_rfl) hm28 (m := 1) (by kernel_rfl) rfl ?_
    refine OI_static 6 [(0, pt v), (1, pt l), (2, nt who), (3, nt ref), (9, pt b1), (11, pt b16), (37, .bool (!(decide ((q16).state = 0))))] (by kernel_rfl) ?_
    refine OI_end rfl ?_
    refine X_then ?_
    refine V_not ((q16).state = 0) (by kernel_rfl) (fun hc30 => ?_) (fun hc30 => ?_)
    ·
     refine V_seq ?_
     refine V_region ?_
     refine OI_static 1 [(10, nt 9)] (by kernel_rfl) ?_
     refine OI_end rfl ?_
     refine X_then ?_
     refine V_ret ?_
     refine X_ret_block ?_
     refine X_ret_then ?_
     have hE31 : voteE xs s who ref x = 9 := by unfold voteE; rw [if_neg (by rintro (h9 | h9); exact h9 hg8; exact h9 hc14)]; rw [hpa16]; dsimp only; rw [if_pos hc30]
     exact X_return (nt 9) rfl ⟨by rw [hE31], ⟨F, G, ⟨_, by rw [show voteS xs s who ref x = s from by unfold voteS; rw [hE31, if_neg (by decide)]]; exact h⟩, by rw [show voteC xs cs s who ref x = cs from by unfold voteC; rw [hE31, if_neg (by decide)]]; exact hl, hFr, hGr, hdis⟩, hK0⟩
    ·
     refine V_skip ?_
     refine X_block ?_
     refine X_then ?_
     refine V_seq ?_
     refine V_region ?_
     refine OI_static 5 [(0, pt v), (1, pt l), (2, nt who), (3, nt ref), (9, pt b1), (11, pt b16), (43, pt v), (44, nt who), (47, pt b16)] (by kernel_rfl) ?_
     refine OI_cell 3 (.tmp 47) 0 (nt ((q16).track)) (some 48) (by kernel_rfl) (by kernel_rfl) hm28 (m := 1) (by kernel_rfl) rfl ?_
     rcases hd32 : (s.rc who ((q16).track)).d with _ | d33
     ·
      refine OI_call { callee := (Callee.value (Operand.func 26)), args := #[(Operand.tmp 43), (Operand.tmp 44), (Operand.tmp 48)], argTypes := #[29, 3, 3] } 26 #[pt v, nt who, nt ((q16).track)] (some 49) (by kernel_rfl) (by kernel_rfl) (by kernel_rfl) (record_spec F v P s who ((q16).track) _ h (by omega) (htr _ _ (by assumption))) ?_
      rintro _ w48 ⟨q38, P39, rfl, hgc43, hpp44, hgv45, hmn46, hdl47, ⟨F40, ho41, hfr42⟩, hk49⟩
      refine ⟨_, rfl, ?_⟩
      have hsz50 := Keep.size hk49
      replace hb1 := hb1.keep hk49 (fun hs => by have h1 := hFo _ hs; have h2 := hFlt _ hs; omega)
      replace hl := Led.keep hl hk49 (fun q hq hs => hdis q hs hq)
      replace hK0 := Keep.fresh hK0 hk49 (fun i hi hs => by rcases hFr i hs with h | h; exact .inl h; (exfalso; omega))
      have own52 : ∀ q, F40 q → 0 ≤ q ∧ q ≠ b1 := fun q hq => by rcases hfr42 q hq with h | h; (have h1 := hFo q h; have h2 := hFlt q h; omega); omega
      have lt51 := Vot.lt ho41
      have rel53 : ∀ q, F40 q → F q ∨ w.heap.size ≤ q := fun q hq => by rcases hfr42 q hq with h | h; exact hFr q h; exact .inr (by omega)
      have dis54 : ∀ q, F40 q → ¬ G q := fun q h1 h2 => by rcases hfr42 q h1 with h | h; exact hdis q h h2; (have h4 := hGlt q h2; omega)
      have hqb16w48 := (show P39.pp[i16]? = some (some ⟨b16, 0, none⟩) from by rw [hpp44]; exact hpp16)
      have hgq38lt := lt51 _ (Vot.at_ ho41)
      obtain ⟨hvlhm55, hm55⟩ := Vot.vblk ho41
      have hF56 := Vot.at_ ho41
      have hvlt := hm55.lt
      have hlov := lt51 _ hF56
      have hov := own52 _ hF56
      obtain ⟨hm57, hF58⟩ := Vot.pollB ho41 hqb16w48 hps16
      have hb16lt := hm57.lt
      have hlob16 := lt51 _ hF58
      have hob16 := own52 _ hF58
      obtain ⟨hF60, hm59⟩ := Vot.recN ho41 hgc43 hd32
      have hq38lt := hm59.lt
      have hloq38 := lt51 _ hF60
      have hoq38 := own52 _ hF60
      have hneb16v : b16 ≠ v := Blk.ne hm57 hm55 (by decide)
      have hneq38v : q38 ≠ v := Blk.ne hm59 hm55 (by decide)
      have hneq38b16 : q38 ≠ b16 := Blk.ne hm59 hm57 (by decide)
      refine OI_static 8 [(0, pt v), (1, pt l), (2, nt who), (3, nt ref), (9, pt b1), (11, pt b16), (12, pt q38)] (by kernel_rfl) ?_
      refine OI_end rfl ?_
      refine X_then ?_
      refine V_seq ?_
      refine V_region ?_
      refine OI_static 3 [(0, pt v), (1, pt l), (2, nt who), (3, nt ref), (9, pt b1), (11, pt b16), (12, pt q38), (53, .pointer (some ⟨v, 12, none⟩))] (by kernel_rfl) ?_
      refine OI_cell 63 (.tmp 53) 12 (pt P39.gv) (some 54) (by kernel_rfl) (by kernel_rfl) hm55 (m := 1) (by kernel_rfl) (by rw [List.getElem?_append_right (by rw [List.length_map]; omega), List.length_map, hvlhm55]; rfl) ?_
      refine OI_static 6 [(0, pt v), (1, pt l), (2, nt who), (3, nt ref), (9, pt b1), (11, pt b16), (12, pt q38), (54, pt P39.gv), (55, nt who), (56, nt ref)] (by kernel_rfl) ?_
      refine OI_call { callee := (Callee.value (Operand.func 27)), args := #[(Operand.tmp 54), (Operand.tmp 55), (Operand.tmp 56)], argTypes := #[63, 3, 3] } 27 #[pt P39.gv, nt who, nt ref] (some 57) (by kernel_rfl) (by kernel_rfl) (by kernel_rfl) (vget_spec F40 v P39 s who ref _ ho41) ?_
      rintro _ w63 ⟨rfl, hk64⟩
      refine ⟨_, rfl, ?_⟩
      have hsz65 := Keep.size hk64
      replace hb1 := hb1.keep hk64 (fun f => f)
      replace hm55 := hm55.keep hk64 (fun f => f)
      replace hm57 := hm57.keep hk64 (fun f => f)
      replace hm59 := hm59.keep hk64 (fun f => f)
      replace hl := Led.keep hl hk64 (fun _ _ f => f)
      replace hK0 := Keep.tr hK0 (Keep.ofNone hk64)
      replace ho41 := Vot.keep ho41 hk64 (fun _ _ f => f)
      refine OI_static 10 [(0, pt v), (1, pt l), (2, nt who), (3, nt ref), (9, pt b1), (11, pt b16), (12, pt q38), (58, .agg (Vt.cells ((GV.getC who ref s.cs).getD Vt.zero)).toArray), (59, .bool ((GV.getC who ref s.cs).isSome))] (by kernel_rfl) ?_
      refine OI_alloc 26 (.agg #[nt 0, .bool false, nt 0, nt 0, nt 0, nt 0]) [nt 0, .bool false, nt 0, nt 0, nt 0, nt 0] (some 13) (by kernel_rfl) (by kernel_rfl) (by kernel_rfl) ?_
      intro b66 w66 e66 hb66 k66 z66
      have hsz67 := Keep.size k66
      replace hb1 := hb1.keep k66 (fun f => f)
      replace hm55 := hm55.keep k66 (fun f => f)
      replace hm57 := hm57.keep k66 (fun f => f)
      replace hm59 := hm59.keep k66 (fun f => f)
      replace hl := Led.keep hl k66 (fun _ _ f => f)
      replace hK0 := Keep.tr hK0 (Keep.ofNone k66)
      replace ho41 := Vot.keep ho41 k66 (fun _ _ f => f)
      have hb66lt := hb66.lt
      refine OI_set (m := 6) (kd := true) 26 (.tmp 13) (.tmp 58) 0 (.agg (Vt.cells ((GV.getC who ref s.cs).getD Vt.zero)).toArray) (Vt.cells ((GV.getC who ref s.cs).getD Vt.zero)) none (by kernel_rfl) (by kernel_rfl) (by kernel_rfl) hb66 (by kernel_rfl) rfl (Vt.len _) (Nat.le_of_ble_eq_true (by kernel_rfl)) (Vt.one _) ?_
      intro w68 hb66_71 hk69 hz70
      replace hb66_71 : Blk w68 b66 (Vt.cells ((GV.getC who ref s.cs).getD Vt.zero)) 26 := (by rwa [over_whole (by rw [Vt.len]; rfl)] at hb66_71)
      have hsz72 := Keep.size hk69
      replace hb1 := hb1.keep hk69 (by show ¬ (_ = _); omega)
      replace hm55 := hm55.keep hk69 (by show ¬ (_ = _); omega)
      replace hm57 := hm57.keep hk69 (by show ¬ (_ = _); omega)
      replace hm59 := hm59.keep hk69 (by show ¬ (_ = _); omega)
      replace hl := Led.keep hl hk69 (fun q hq hs => by have hs : q = b66 := hs; have g0 := hGo q hq; have g1 := hGlt q hq; omega)
      replace hK0 := Keep.fresh hK0 hk69 (by intro i hi hs; first | exact hs | exact Or.inl hs | exact Or.inr hs | (exfalso; have hs2 : i = b66 := hs; omega))
      replace ho41 := Vot.keep ho41 hk69 (fun q hq hs => by have hs : q = b66 := hs; have g0 := own52 q hq; have g1 := lt51 q hq; omega)
      refine OI_static 13 [(0, pt v), (1, pt l), (2, nt who), (3, nt ref), (9, pt b1), (11, pt b16), (12, pt q38), (13, pt b66), (14, .bool ((GV.getC who ref s.cs).isSome))] (by kernel_rfl) ?_
      refine OI_end rfl ?_
      refine X_then ?_
      refine V_seq ?_
      refine V_block ?_
      refine V_seq ?_
      refine V_region ?_
      refine OI_static 3 [(0, pt v), (1, pt l), (2, nt who), (3, nt ref), (9, pt b1), (11, pt b16), (12, pt q38), (13, pt b66), (14, .bool ((GV.getC who ref s.cs).isSome)), (63, pt q38)] (by kernel_rfl) ?_
      refine OI_cell 72 (.tmp 63) 0 (.pointer none) (some 64) (by kernel_rfl) (by kernel_rfl) hm59 (m := 1) (by kernel_rfl) rfl ?_
      refine OI_static 6 [(0, pt v), (1, pt l), (2, nt who), (3, nt ref), (9, pt b1), (11, pt b16), (12, pt q38), (13, pt b66), (14, .bool ((GV.getC who ref s.cs).isSome)), (60, .bool false)] (by kernel_rfl) ?_
      refine OI_end rfl ?_
      refine X_then ?_
      refine V_false rfl ?_
      refine V_seq ?_
      refine V_region ?_
      refine OI_agg 26 (.tmp 9) 0 (Vt.cells x) (some 67) (by kernel_rfl) (by kernel_rfl) hb1 (m := 6) (by kernel_rfl) (take_all (Vt.len _)) (Vt.len _) ?_
      refine OI_call { callee := (Callee.value (Operand.func 28)), args := #[(Operand.tmp 67)], argTypes := #[26] } 28 #[.agg (Vt.cells x).toArray] (some 68) (by kernel_rfl) (by kernel_rfl) (by kernel_rfl) (cvCapital_spec x _) ?_
      rintro _ w75 ⟨rfl, hk76⟩
      refine ⟨_, rfl, ?_⟩
      have hsz77 := Keep.size hk76
      replace hb1 := hb1.keep hk76 (fun f => f)
      replace hm55 := hm55.keep hk76 (fun f => f)
      replace hm57 := hm57.keep hk76 (fun f => f)
      replace hm59 := hm59.keep hk76 (fun f => f)
      replace hb66_71 := hb66_71.keep hk76 (fun f => f)
      replace hl := Led.keep hl hk76 (fun _ _ f => f)
      replace hK0 := Keep.tr hK0 (Keep.ofNone hk76)
      replace ho41 := Vot.keep ho41 hk76 (fun _ _ f => f)
      refine OI_static 4 [(0, pt v), (1, pt l), (2, nt who), (3, nt ref), (9, pt b1), (11, pt b16), (12, pt q38), (13, pt b66), (14, .bool ((GV.getC who ref s.cs).isSome)), (68, nt (capI x)), (69, pt l), (70, nt who)] (by kernel_rfl) ?_
      refine OI_call { callee := (Callee.value (Operand.func 29)), args := #[(Operand.tmp 69), (Operand.tmp 70)], argTypes := #[28, 3] } 29 #[pt l, nt who] (some 71) (by kernel_rfl) (by kernel_rfl) (by kernel_rfl) (free_spec G l xs cs who _ hl) ?_
      rintro _ w78 ⟨rfl, hk79⟩
      refine ⟨_, rfl, ?_⟩
      have hsz80 := Keep.size hk79
      replace hb1 := hb1.keep hk79 (fun f => f)
      replace hm55 := hm55.keep hk79 (fun f => f)
      replace hm57 := hm57.keep hk79 (fun f => f)
      replace hm59 := hm59.keep hk79 (fun f => f)
      replace hb66_71 := hb66_71.keep hk79 (fun f => f)
      replace hl := Led.keep hl hk79 (fun _ _ f => f)
      replace hK0 := Keep.tr hK0 (Keep.ofNone hk79)
      replace ho41 := Vot.keep ho41 hk79 (fun _ _ f => f)
      refine OI_static 7 [(0, pt v), (1, pt l), (2, nt who), (3, nt ref), (9, pt b1), (11, pt b16), (12, pt q38), (13, pt b66), (14, .bool ((GV.getC who ref s.cs).isSome)), (66, .bool (decide (capI x > (acct xs who).free)))] (by kernel_rfl) ?_
      refine OI_end rfl ?_
      refine X_then ?_
      refine V_if (capI x > (acct xs who).free) (by kernel_rfl) (fun hc81 => ?_) (fun hc81 => ?_)
      ·
       refine V_seq ?_
       refine V_region ?_
       refine OI_static 1 [(10, nt 6)] (by kernel_rfl) ?_
       refine OI_end rfl ?_
       refine X_then ?_
       refine V_ret ?_
       refine X_ret_block ?_
       refine X_ret_then ?_
       have hE82 : voteE xs s who ref x = 6 := by unfold voteE; rw [if_neg (by rintro (h9 | h9); exact h9 hg8; exact h9 hc14)]; rw [hpa16]; dsimp only; rw [if_neg (fun h9 => h9 hc30)]; rw [if_neg (by rw [hd32]; decide)]; rw [if_pos hc81]
       exact X_return (nt 6) rfl ⟨by rw [hE82], ⟨F40, G, ⟨_, by rw [show voteS xs s who ref x = s from by unfold voteS; rw [hE82, if_neg (by decide)]]; exact ho41⟩, by rw [show voteC xs cs s who ref x = cs from by unfold voteC; rw [hE82, if_neg (by decide)]]; exact hl, rel53, hGr, dis54⟩, hK0⟩
      ·
       refine V_seq ?_
       refine V_region ?_
       refine OI_static 3 [(0, pt v), (1, pt l), (2, nt who), (3, nt ref), (9, pt b1), (11, pt b16), (12, pt q38), (13, pt b66), (14, .bool ((GV.getC who ref s.cs).isSome)), (76, .bool (!((GV.getC who ref s.cs).isSome)))] (by kernel_rfl) ?_
       cases hg83 : (!((GV.getC who ref s.cs).isSome))
       ·
        refine OI_eq [(0, pt v), (1, pt l), (2, nt who), (3, nt ref), (9, pt b1), (11, pt b16), (12, pt q38), (13, pt b66), (14, .bool ((GV.getC who ref s.cs).isSome)), (76, .bool false)] (by first | rfl | rw [hg83]) ?_
        refine OI_static 13 [(0, pt v), (1, pt l), (2, nt who), (3, nt ref), (9, pt b1), (11, pt b16), (12, pt q38), (13, pt b66), (14, .bool ((GV.getC who ref s.cs).isSome)), (73, .bool false)] (by kernel_rfl) ?_
        refine OI_end rfl ?_
        refine X_then ?_
        refine V_false rfl ?_
        refine V_skip ?_
        refine X_block ?_
        refine X_then ?_
        refine V_seq ?_
        refine V_seq ?_
        refine V_region ?_
        refine OI_static 1 [(0, pt v), (1, pt l), (2, nt who), (3, nt ref), (9, pt b1), (11, pt b16), (12, pt q38), (13, pt b66), (86, .bool ((GV.getC who ref s.cs).isSome))] (by kernel_rfl) ?_
        refine OI_end rfl ?_
        refine X_then ?_
        refine V_eq [(0, pt v), (1, pt l), (2, nt who), (3, nt ref), (9, pt b1), (11, pt b16), (12, pt q38), (13, pt b66), (86, .bool true)] (by rw [(show (GV.getC who ref s.cs).isSome = true from by simpa using hg83)]) ?_
        refine V_true rfl ?_
        refine V_draws (acts [10, 11, 14]) none_ [[5, 6, 7, 8, 9, 10, 1, 2, 3, 4, 11, 0, 12, 13, 14]] (by kernel_rfl) (by repeat first | exact sure_body (by rintro _ _ ⟨h, _⟩; exact ⟨_, h⟩) | refine sure_then ?_ | refine sure_block ?_ | refine sure_join ?_) (by kernel_rfl) ?_
        intro w86 hk85 he87 L hL88
        have hsz89 := Keep.size hk85
        replace hb1 := hb1.keep hk85 (fun f => f)
        replace hm55 := hm55.keep hk85 (fun f => f)
        replace hm57 := hm57.keep hk85 (fun f => f)
        replace hm59 := hm59.keep hk85 (fun f => f)
        replace hb66_71 := hb66_71.keep hk85 (fun f => f)
        replace hl := Led.keep hl hk85 (fun _ _ f => f)
        replace hK0 := Keep.tr hK0 (Keep.ofNone hk85)
        replace ho41 := Vot.keep ho41 hk85 (fun _ _ f => f)
        have qhb1 := hb1
        have qhm55 := hm55
        have qhm57 := hm57
        have qhm59 := hm59
        have qhb66_71 := hb66_71
        have K90 : Keep none_ w86 w86 := Keep.refl _ _
        obtain rfl := List.mem_singleton.1 hL88
        refine GI_agg 26 (.tmp 13) 0 (Vt.cells ((GV.getC who ref s.cs).getD Vt.zero)) (some 92) (by kernel_rfl) (by kernel_rfl) (by kernel_rfl) qhb66_71 (fun f => f) (m := 6) (by kernel_rfl) (take_all (Vt.len _)) (Vt.len _) ?_
        refine GI_static [9, 10, 1, 2, 3, 4, 11, 0, 12, 13, 14] [(0, pt v), (1, pt l), (2, nt who), (3, nt ref), (9, pt b1), (11, pt b16), (12, pt q38), (92, .agg (Vt.cells ((GV.getC who ref s.cs).getD Vt.zero)).toArray), (95, .pointer (some ⟨q38, 1, none⟩))] (by kernel_rfl) ?_
        refine GI_agg 74 (.tmp 95) 1 [nt (((s.rc who ((q16).track))).got.v), nt (((s.rc who ((q16).track))).got.c)] (some 96) (by kernel_rfl) (by kernel_rfl) (by kernel_rfl) qhm59 (fun f => f) (m := 2) (by kernel_rfl) rfl rfl ?_
        refine GI_call { callee := (Callee.value (Operand.func 32)), args := #[(Operand.tmp 92), (Operand.tmp 96)], argTypes := #[26, 74] } 32 #[.agg (Vt.cells ((GV.getC who ref s.cs).getD Vt.zero)).toArray, .agg #[nt (((s.rc who ((q16).track))).got.v), nt (((s.rc who ((q16).track))).got.c)]] (some 97) (by kernel_rfl) (by kernel_rfl) (by kernel_rfl) (by kernel_rfl) (cvGain_spec ((GV.getC who ref s.cs).getD Vt.zero) (((s.rc who ((q16).track))).got) _) ?_
        rintro _ w93 ⟨rfl, hk94⟩
        have K95 := K90.tr (Keep.ofNone hk94)
        refine ⟨_, rfl, K95, ?_⟩
        have hzK95 := Keep.size K95
        have hsz96 := Keep.size hk94
        replace hb1 := hb1.keep hk94 (fun f => f)
        replace hm55 := hm55.keep hk94 (fun f => f)
        replace hm57 := hm57.keep hk94 (fun f => f)
        replace hm59 := hm59.keep hk94 (fun f => f)
        replace hb66_71 := hb66_71.keep hk94 (fun f => f)
        replace hl := Led.keep hl hk94 (fun _ _ f => f)
        replace hK0 := Keep.tr hK0 (Keep.ofNone hk94)
        replace ho41 := Vot.keep ho41 hk94 (fun _ _ f => f)
        refine GI_static [4, 11, 0, 12, 13, 14] [(0, pt v), (1, pt l), (2, nt who), (3, nt ref), (9, pt b1), (11, pt b16), (12, pt q38), (90, .pointer (some ⟨b16, 1, none⟩)), (97, .agg (Tly.cells (gainT ((GV.getC who ref s.cs).getD Vt.zero) (((s.rc who ((q16).track))).got))).toArray)] (by kernel_rfl) ?_
        refine GI_agg 43 (.tmp 90) 1 [nt ((q16).t.a), nt ((q16).t.n), nt ((q16).t.s)] (some 91) (by kernel_rfl) (by kernel_rfl) (by kernel_rfl) qhm57 (fun f => f) (m := 3) (by kernel_rfl) rfl rfl ?_
        refine GI_call { callee := (Callee.value (Operand.func 31)), args := #[(Operand.tmp 91), (Operand.tmp 97)], argTypes := #[43, 43] } 31 #[.agg #[nt ((q16).t.a), nt ((q16).t.n), nt ((q16).t.s)], .agg (Tly.cells (gainT ((GV.getC who ref s.cs).getD Vt.zero) (((s.rc who ((q16).track))).got))).toArray] (some 98) (by kernel_rfl) (by kernel_rfl) (by kernel_rfl) (by kernel_rfl) (cvSub_spec ((q16).t) (gainT ((GV.getC who ref s.cs).getD Vt.zero) (((s.rc who ((q16).track))).got)) _) ?_
        rintro _ w99 ⟨rfl, hk100⟩
        have K101 := K95.tr (Keep.ofNone hk100)
        refine ⟨_, rfl, K101, ?_⟩
        have hzK101 := Keep.size K101
        have hsz102 := Keep.size hk100
        replace hb1 := hb1.keep hk100 (fun f => f)
        replace hm55 := hm55.keep hk100 (fun f => f)
        replace hm57 := hm57.keep hk100 (fun f => f)
        replace hm59 := hm59.keep hk100 (fun f => f)
        replace hb66_71 := hb66_71.keep hk100 (fun f => f)
        replace hl := Led.keep hl hk100 (fun _ _ f => f)
        replace hK0 := Keep.tr hK0 (Keep.ofNone hk100)
        replace ho41 := Vot.keep ho41 hk100 (fun _ _ f => f)
        refine GI_static [14] [(0, pt v), (1, pt l), (2, nt who), (3, nt ref), (9, pt b1), (11, pt b16), (12, pt q38), (98, .agg (Tly.cells (subT ((q16).t) (gainT ((GV.getC who ref s.cs).getD Vt.zero) (((s.rc who ((q16).track))).got)))).toArray), (100, .pointer (some ⟨b16, 1, none⟩))] (by kernel_rfl) ?_
        refine GI_final 14 (by kernel_rfl) (by kernel_rfl) ?_
        refine OI_set (m := 3) (kd := true) 43 (.tmp 100) (.tmp 98) 1 (.agg (Tly.cells (subT ((q16).t) (gainT ((GV.getC who ref s.cs).getD Vt.zero) (((s.rc who ((q16).track))).got)))).toArray) (Tly.cells (subT ((q16).t) (gainT ((GV.getC who ref s.cs).getD Vt.zero) (((s.rc who ((q16).track))).got)))) none (by kernel_rfl) (by kernel_rfl) (by kernel_rfl) hm57 (by kernel_rfl) rfl (Tly.len _) (Nat.le_of_ble_eq_true (by kernel_rfl)) (Tly.one _) ?_
        intro w103 hn106 hk104 hz105
        replace hn106 : Blk w103 b16 (PollS.cells { q16 with t := (subT ((q16).t) (gainT ((GV.getC who ref s.cs).getD Vt.zero) (((s.rc who ((q16).track))).got))) }) 61 := hn106
        have hsz107 := Keep.size hk104
        replace hb1 := hb1.keep hk104 (by show ¬ (b1 = b16); omega)
        replace hm55 := hm55.keep hk104 (by show ¬ (v = b16); omega)
        replace hm59 := hm59.keep hk104 (by show ¬ (q38 = b16); omega)
        replace hb66_71 := hb66_71.keep hk104 (by show ¬ (b66 = b16); omega)
        replace hl := Led.keep hl hk104 (fun q hq hs => (fun q h1 h2 => dis54 q h2 h1) q hq (by rw [show q = b16 from hs]; exact hF58))
        replace hK0 := Keep.fresh hK0 hk104 (fun i hi hs => by have hs : F40 i := (by rw [show i = b16 from hs]; exact hF58); rcases rel53 i hs with h | h; exact .inl h; (exfalso; omega))
        obtain ⟨tv109, htv109⟩ : ∃ t9 : Tly, t9 = (subT ((q16).t) (gainT ((GV.getC who ref s.cs).getD Vt.zero) (((s.rc who ((q16).track))).got))) := ⟨_, rfl⟩
        rw [← htv109] at hn106
        have ho108 := Vot.setPoll ho41 hqb16w48 hps16 hk104 (show Blk _ _ (PollS.cells { q16 with t := tv109 }) _ from hn106)
        have hs110 : (s.setP i16 { q16 with t := tv109 }).ps[i16]? = some (some { q16 with t := tv109 }) := List.getElem?_set_self (List.getElem?_eq_some_iff.1 hps16).1
        have hb16lt := hn106.lt
        refine OI_end rfl ?_
        refine X_then ?_
        refine V_seq ?_
        refine V_draws (acts [10, 11, 12, 15]) none_ [[5, 6, 7, 8, 9, 10, 11, 1, 2, 3, 4, 12, 0, 13, 14, 15]] (by kernel_rfl) (by repeat first | exact sure_body (by rintro _ _ ⟨h, _⟩; exact ⟨_, h⟩) | refine sure_then ?_ | refine sure_block ?_ | refine sure_join ?_) (by kernel_rfl) ?_
        intro w112 hk111 he113 L hL114
        have hsz115 := Keep.size hk111
        replace hb1 := hb1.keep hk111 (fun f => f)
        replace hm55 := hm55.keep hk111 (fun f => f)
        replace hm59 := hm59.keep hk111 (fun f => f)
        replace hb66_71 := hb66_71.keep hk111 (fun f => f)
        replace hn106 := hn106.keep hk111 (fun f => f)
        replace hl := Led.keep hl hk111 (fun _ _ f => f)
        replace hK0 := Keep.tr hK0 (Keep.ofNone hk111)
        replace ho108 := Vot.keep ho108 hk111 (fun _ _ f => f)
        have qhb1 := hb1
        have qhm55 := hm55
        have qhm59 := hm59
        have qhb66_71 := hb66_71
        have qhn106 := hn106
        have K116 : Keep none_ w112 w112 := Keep.refl _ _
        obtain rfl := List.mem_singleton.1 hL114
        refine GI_agg 26 (.tmp 9) 0 (Vt.cells x) (some 106) (by kernel_rfl) (by kernel_rfl) (by kernel_rfl) qhb1 (fun f => f) (m := 6) (by kernel_rfl) (take_all (Vt.len _)) (Vt.len _) ?_
        refine GI_static [9, 10, 11, 1, 2, 3, 4, 12, 0, 13, 14, 15] [(0, pt v), (1, pt l), (2, nt who), (3, nt ref), (9, pt b1), (11, pt b16), (106, .agg (Vt.cells x).toArray), (109, .pointer (some ⟨q38, 1, none⟩))] (by kernel_rfl) ?_
        refine GI_agg 74 (.tmp 109) 1 [nt (((s.rc who ((q16).track))).got.v), nt (((s.rc who ((q16).track))).got.c)] (some 110) (by kernel_rfl) (by kernel_rfl) (by kernel_rfl) qhm59 (fun f => f) (m := 2) (by kernel_rfl) rfl rfl ?_
        refine GI_call { callee := (Callee.value (Operand.func 32)), args := #[(Operand.tmp 106), (Operand.tmp 110)], argTypes := #[26, 74] } 32 #[.agg (Vt.cells x).toArray, .agg #[nt (((s.rc who ((q16).track))).got.v), nt (((s.rc who ((q16).track))).got.c)]] (some 111) (by kernel_rfl) (by kernel_rfl) (by kernel_rfl) (by kernel_rfl) (cvGain_spec x (((s.rc who ((q16).track))).got) _) ?_
        rintro _ w119 ⟨rfl, hk120⟩
        have K121 := K116.tr (Keep.ofNone hk120)
        refine ⟨_, rfl, K121, ?_⟩
        have hzK121 := Keep.size K121
        have hsz122 := Keep.size hk120
        replace hb1 := hb1.keep hk120 (fun f => f)
        replace hm55 := hm55.keep hk120 (fun f => f)
        replace hm59 := hm59.keep hk120 (fun f => f)
        replace hb66_71 := hb66_71.keep hk120 (fun f => f)
        replace hn106 := hn106.keep hk120 (fun f => f)
        replace hl := Led.keep hl hk120 (fun _ _ f => f)
        replace hK0 := Keep.tr hK0 (Keep.ofNone hk120)
        replace ho108 := Vot.keep ho108 hk120 (fun _ _ f => f)
        refine GI_slit (E := 43) (zv := .agg #[nt 0, nt 0, nt 0]) (sz := 3) (by_ := 24) 129 1 #[(0, (Operand.tmp 111))] [.agg (Tly.cells (gainT x (((s.rc who ((q16).track))).got))).toArray] (Tly.cells (gainT x (((s.rc who ((q16).track))).got))) (some 112) (by kernel_rfl) (by kernel_rfl) K121 (by kernel_rfl) (by kernel_rfl) (by omega) rfl (by omega) (by intro v hv; obtain rfl := List.mem_singleton.1 hv; show (Tly.cells (gainT x (((s.rc who ((q16).track))).got))).toArray.size = 3; simp [Tly.len]) (by kernel_rfl) (by show (Tly.cells (gainT x (((s.rc who ((q16).track))).got))).toArray.toList ++ [] = _; simp) ?_
        intro b123 w123 e123 hb123 k123 z123 K124
        have hsz125 := Keep.size k123
        replace hb1 := hb1.keep k123 (fun f => f)
        replace hm55 := hm55.keep k123 (fun f => f)
        replace hm59 := hm59.keep k123 (fun f => f)
        replace hb66_71 := hb66_71.keep k123 (fun f => f)
        replace hn106 := hn106.keep k123 (fun f => f)
        replace hl := Led.keep hl k123 (fun _ _ f => f)
        replace hK0 := Keep.tr hK0 (Keep.ofNone k123)
        replace ho108 := Vot.keep ho108 k123 (fun _ _ f => f)
        have hb123lt := hb123.lt
        refine GI_static [4, 12, 0, 13, 14, 15] [(0, pt v), (1, pt l), (2, nt who), (3, nt ref), (9, pt b1), (11, pt b16), (104, .pointer (some ⟨b16, 1, none⟩)), (112, .slice (some ⟨b123, 0, none⟩) 1 1)] (by kernel_rfl) ?_
        refine GI_agg 43 (.tmp 104) 1 [nt ((tv109).a), nt ((tv109).n), nt ((tv109).s)] (some 105) (by kernel_rfl) (by kernel_rfl) (by kernel_rfl) qhn106 (fun f => f) (m := 3) (by kernel_rfl) rfl rfl ?_
        refine GI_call { callee := (Callee.value (Operand.func 33)), args := #[(Operand.tmp 105), (Operand.tmp 112)], argTypes := #[43, 129] } 33 #[.agg #[nt ((tv109).a), nt ((tv109).n), nt ((tv109).s)], .slice (some ⟨b123, 0, none⟩) 1 1] (some 113) (by kernel_rfl) (by kernel_rfl) (by kernel_rfl) (by kernel_rfl) (cvAdd1 b123 (Tly.mk ((tv109).a) ((tv109).n) ((tv109).s)) (gainT x (((s.rc who ((q16).track))).got)) _ _ hb123) ?_
        rintro _ w130 ⟨rfl, hk131⟩
        have K132 := K124.tr (Keep.ofNone hk131)
        refine ⟨_, rfl, K132, ?_⟩
        have hzK132 := Keep.size K132
        have hsz133 := Keep.size hk131
        replace hb1 := hb1.keep hk131 (fun f => f)
        replace hm55 := hm55.keep hk131 (fun f => f)
        replace hm59 := hm59.keep hk131 (fun f => f)
        replace hb66_71 := hb66_71.keep hk131 (fun f => f)
        replace hn106 := hn106.keep hk131 (fun f => f)
        replace hb123 := hb123.keep hk131 (fun f => f)
        replace hl := Led.keep hl hk131 (fun _ _ f => f)
        replace hK0 := Keep.tr hK0 (Keep.ofNone hk131)
        replace ho108 := Vot.keep ho108 hk131 (fun _ _ f => f)
        refine GI_static [15] [(0, pt v), (1, pt l), (2, nt who), (3, nt ref), (9, pt b1), (11, pt b16), (113, .agg (Tly.cells (addT (Tly.mk ((tv109).a) ((tv109).n) ((tv109).s)) (gainT x (((s.rc who ((q16).track))).got)))).toArray), (115, .pointer (some ⟨b16, 1, none⟩))] (by kernel_rfl) ?_
        refine GI_final 15 (by kernel_rfl) (by kernel_rfl) ?_
        refine OI_set (m := 3) (kd := true) 43 (.tmp 115) (.tmp 113) 1 (.agg (Tly.cells (addT (Tly.mk ((tv109).a) ((tv109).n) ((tv109).s)) (gainT x (((s.rc who ((q16).track))).got)))).toArray) (Tly.cells (addT (Tly.mk ((tv109).a) ((tv109).n) ((tv109).s)) (gainT x (((s.rc who ((q16).track))).got)))) none (by kernel_rfl) (by kernel_rfl) (by kernel_rfl) hn106 (by kernel_rfl) rfl (Tly.len _) (Nat.le_of_ble_eq_true (by kernel_rfl)) (Tly.one _) ?_
        intro w134 hn137 hk135 hz136
        replace hn137 : Blk w134 b16 (PollS.cells { q16 with t := (addT (Tly.mk ((tv109).a) ((tv109).n) ((tv109).s)) (gainT x (((s.rc who ((q16).track))).got))) }) 61 := hn137
        have hsz138 := Keep.size hk135
        replace hb1 := hb1.keep hk135 (by show ¬ (b1 = b16); omega)
        replace hm55 := hm55.keep hk135 (by show ¬ (v = b16); omega)
        replace hm59 := hm59.keep hk135 (by show ¬ (q38 = b16); omega)
        replace hb66_71 := hb66_71.keep hk135 (by show ¬ (b66 = b16); omega)
        replace hb123 := hb123.keep hk135 (by show ¬ (b123 = b16); omega)
        replace hl := Led.keep hl hk135 (fun q hq hs => (fun q h1 h2 => dis54 q h2 h1) q hq (by rw [show q = b16 from hs]; exact hF58))
        replace hK0 := Keep.fresh hK0 hk135 (fun i hi hs => by have hs : F40 i := (by rw [show i = b16 from hs]; exact hF58); rcases rel53 i hs with h | h; exact .inl h; (exfalso; omega))
        obtain ⟨tv140, htv140⟩ : ∃ t9 : Tly, t9 = (addT (Tly.mk ((tv109).a) ((tv109).n) ((tv109).s)) (gainT x (((s.rc who ((q16).track))).got))) := ⟨_, rfl⟩
        rw [← htv140] at hn137
        have ho139 := Vot.setPoll ho108 hqb16w48 hs110 hk135 (show Blk _ _ (PollS.cells { q16 with t := tv140 }) _ from hn137)
        have hs141 : ((s.setP i16 { q16 with t := tv109 }).setP i16 { q16 with t := tv140 }).ps[i16]? = some (some { q16 with t := tv140 }) := List.getElem?_set_self (List.getElem?_eq_some_iff.1 hs110).1
        have hb16lt := hn137.lt
        refine OI_end rfl ?_
        refine X_then ?_
        refine V_seq ?_
        refine V_draws (acts [7]) none_ [[0, 1, 2, 3, 4, 5, 6, 7]] (by kernel_rfl) (by repeat first | exact sure_body (by rintro _ _ ⟨h, _⟩; exact ⟨_, h⟩) | refine sure_then ?_ | refine sure_block ?_ | refine sure_join ?_) (by kernel_rfl) ?_
        intro w143 hk142 he144 L hL145
        have hsz146 := Keep.size hk142
        replace hb1 := hb1.keep hk142 (fun f => f)
        replace hm55 := hm55.keep hk142 (fun f => f)
        replace hm59 := hm59.keep hk142 (fun f => f)
        replace hb66_71 := hb66_71.keep hk142 (fun f => f)
        replace hb123 := hb123.keep hk142 (fun f => f)
        replace hn137 := hn137.keep hk142 (fun f => f)
        replace hl := Led.keep hl hk142 (fun _ _ f => f)
        replace hK0 := Keep.tr hK0 (Keep.ofNone hk142)
        replace ho139 := Vot.keep ho139 hk142 (fun _ _ f => f)
        have qhb1 := hb1
        have qhm55 := hm55
        have qhm59 := hm59
        have qhb66_71 := hb66_71
        have qhb123 := hb123
        have qhn137 := hn137
        have K147 : Keep none_ w143 w143 := Keep.refl _ _
        obtain rfl := List.mem_singleton.1 hL145
        refine GI_static [3, 4, 5, 6, 7] [(1, pt l), (2, nt who), (3, nt ref), (9, pt b1), (11, pt b16), (118, .pointer (some ⟨v, 12, none⟩))] (by kernel_rfl) ?_
        refine GI_cell 63 (.tmp 118) 12 (pt P39.gv) (some 119) (by kernel_rfl) (by kernel_rfl) (by kernel_rfl) qhm55 (fun f => f) (m := 1) (by kernel_rfl) (by rw [List.getElem?_append_right (by rw [List.length_map]; omega), List.length_map, hvlhm55]; rfl) ?_
        refine GI_static [6, 7] [(1, pt l), (2, nt who), (9, pt b1), (11, pt b16), (119, pt P39.gv), (120, nt who), (121, nt ref)] (by kernel_rfl) ?_
        refine GI_agg 26 (.tmp 9) 0 (Vt.cells x) (some 122) (by kernel_rfl) (by kernel_rfl) (by kernel_rfl) qhb1 (fun f => f) (m := 6) (by kernel_rfl) (take_all (Vt.len _)) (Vt.len _) ?_
        refine GI_final 7 (by kernel_rfl) (by kernel_rfl) ?_
        refine OI_call { callee := (Callee.value (Operand.func 34)), args := #[(Operand.tmp 119), (Operand.tmp 120), (Operand.tmp 121), (Operand.tmp 122)], argTypes := #[63, 3, 3, 26] } 34 #[pt P39.gv, nt who, nt ref, .agg (Vt.cells x).toArray] (some 123) (by kernel_rfl) (by kernel_rfl) (by kernel_rfl) (vset_spec F40 v P39 ((s.setP i16 { q16 with t := tv109 }).setP i16 { q16 with t := tv140 }) who ref x _ ho139 (by omega) (by omega) hc14 (by rw [hpr16, Int.toNat_natCast]; exact ⟨_, hs141⟩)) ?_
        rintro _ w152 ⟨rfl, ⟨F154, ho155, hfr156⟩, hk153⟩
        refine ⟨_, rfl, ?_⟩
        have hsz157 := Keep.size hk153
        replace hb1 := hb1.keep hk153 (fun hs => by have h1 := own52 _ hs; have h2 := lt51 _ hs; omega)
        replace hb66_71 := hb66_71.keep hk153 (fun hs => by have h1 := own52 _ hs; have h2 := lt51 _ hs; omega)
        replace hb123 := hb123.keep hk153 (fun hs => by have h1 := own52 _ hs; have h2 := lt51 _ hs; omega)
        replace hl := Led.keep hl hk153 (fun q hq hs => dis54 q hs hq)
        replace hK0 := Keep.fresh hK0 hk153 (fun i hi hs => by rcases rel53 i hs with h | h; exact .inl h; (exfalso; omega))
        have own159 : ∀ q, F154 q → 0 ≤ q ∧ q ≠ b1 ∧ q ≠ b66 ∧ q ≠ b123 := fun q hq => by rcases hfr156 q hq with h | h; (have h1 := own52 q h; have h2 := lt51 q h; omega); omega
        have lt158 := Vot.lt ho155
        have rel160 : ∀ q, F154 q → F q ∨ w.heap.size ≤ q := fun q hq => by rcases hfr156 q hq with h | h; exact rel53 q h; exact .inr (by omega)
        have dis161 : ∀ q, F154 q → ¬ G q := fun q h1 h2 => by rcases hfr156 q h1 with h | h; exact dis54 q h h2; (have h4 := hGlt q h2; omega)
        obtain ⟨hvlhm162, hm162⟩ := Vot.vblk ho155
        have hF163 := Vot.at_ ho155
        have hvlt := hm162.lt
        have hlov := lt158 _ hF163
        have hov := own159 _ hF163
        obtain ⟨hm164, hF165⟩ := Vot.pollB ho155 hqb16w48 hs141
        have hb16lt := hm164.lt
        have hlob16 := lt158 _ hF165
        have hob16 := own159 _ hF165
        obtain ⟨hF167, hm166⟩ := Vot.recN ho155 hgc43 hd32
        have hq38lt := hm166.lt
        have hloq38 := lt158 _ hF167
        have hoq38 := own159 _ hF167
        have hneb16v : b16 ≠ v := Blk.ne hm164 hm162 (by decide)
        have hneq38v : q38 ≠ v := Blk.ne hm166 hm162 (by decide)
        have hneq38b16 : q38 ≠ b16 := Blk.ne hm166 hm164 (by decide)
        refine OI_end rfl ?_
        refine X_then ?_
        refine V_seq ?_
        refine V_draws (acts [7, 8]) none_ [[6, 7, 0, 1, 2, 3, 4, 5, 8]] (by kernel_rfl) (by repeat first | exact sure_body (by rintro _ _ ⟨h, _⟩; exact ⟨_, h⟩) | refine sure_then ?_ | refine sure_block ?_ | refine sure_join ?_) (by kernel_rfl) ?_
        intro w169 hk168 he170 L hL171
        have hsz172 := Keep.size hk168
        replace hb1 := hb1.keep hk168 (fun f => f)
        replace hb66_71 := hb66_71.keep hk168 (fun f => f)
        replace hb123 := hb123.keep hk168 (fun f => f)
        replace hm162 := hm162.keep hk168 (fun f => f)
        replace hm164 := hm164.keep hk168 (fun f => f)
        replace hm166 := hm166.keep hk168 (fun f => f)
        replace hl := Led.keep hl hk168 (fun _ _ f => f)
        replace hK0 := Keep.tr hK0 (Keep.ofNone hk168)
        replace ho155 := Vot.keep ho155 hk168 (fun _ _ f => f)
        have qhb1 := hb1
        have qhb66_71 := hb66_71
        have qhb123 := hb123
        have qhm162 := hm162
        have qhm164 := hm164
        have qhm166 := hm166
        have K173 : Keep none_ w169 w169 := Keep.refl _ _
        obtain rfl := List.mem_singleton.1 hL171
        refine GI_agg 26 (.tmp 9) 0 (Vt.cells x) (some 130) (by kernel_rfl) (by kernel_rfl) (by kernel_rfl) qhb1 (fun f => f) (m := 6) (by kernel_rfl) (take_all (Vt.len _)) (Vt.len _) ?_
        refine GI_call { callee := (Callee.value (Operand.func 28)), args := #[(Operand.tmp 130)], argTypes := #[26] } 28 #[.agg (Vt.cells x).toArray] (some 131) (by kernel_rfl) (by kernel_rfl) (by kernel_rfl) (by kernel_rfl) (cvCapital_spec x _) ?_
        rintro _ w176 ⟨rfl, hk177⟩
        have K178 := K173.tr (Keep.ofNone hk177)
        refine ⟨_, rfl, K178, ?_⟩
        have hzK178 := Keep.size K178
        have hsz179 := Keep.size hk177
        replace hb1 := hb1.keep hk177 (fun f => f)
        replace hb66_71 := hb66_71.keep hk177 (fun f => f)
        replace hb123 := hb123.keep hk177 (fun f => f)
        replace hm162 := hm162.keep hk177 (fun f => f)
        replace hm164 := hm164.keep hk177 (fun f => f)
        replace hm166 := hm166.keep hk177 (fun f => f)
        replace hl := Led.keep hl hk177 (fun _ _ f => f)
        replace hK0 := Keep.tr hK0 (Keep.ofNone hk177)
        replace ho155 := Vot.keep ho155 hk177 (fun _ _ f => f)
        refine GI_static [5, 8] [(124, pt l), (125, nt who), (128, pt b16), (131, nt (capI x))] (by kernel_rfl) ?_
        refine GI_cell 3 (.tmp 128) 0 (nt ((q16).track)) (some 129) (by kernel_rfl) (by kernel_rfl) (by kernel_rfl) qhm164 (fun f => f) (m := 1) (by kernel_rfl) rfl ?_
        refine GI_final 8 (by kernel_rfl) (by kernel_rfl) ?_
        refine OI_call { callee := (Callee.value (Operand.func 35)), args := #[(Operand.tmp 124), (Operand.tmp 125), (Operand.tmp 129), (Operand.tmp 131)], argTypes := #[28, 3, 3, 3] } 35 #[pt l, nt who, nt ((q16).track), nt (capI x)] (some 132) (by kernel_rfl) (by kernel_rfl) (by kernel_rfl) (raise_spec G l xs cs who ((q16).track) (capI x) _ hl hmax) ?_
        rintro _ w182 ⟨rfl, ⟨F184, ho185, hfr186⟩, hk183⟩
        refine ⟨_, rfl, ?_⟩
        have hsz187 := Keep.size hk183
        replace hb1 := hb1.keep hk183 (fun hs => by have h1 := hGo _ hs; have h2 := hGlt _ hs; omega)
        replace hb66_71 := hb66_71.keep hk183 (fun hs => by have h1 := hGo _ hs; have h2 := hGlt _ hs; omega)
        replace hb123 := hb123.keep hk183 (fun hs => by have h1 := hGo _ hs; have h2 := hGlt _ hs; omega)
        replace hK0 := Keep.fresh hK0 hk183 (fun i hi hs => by rcases hGr i hs with h | h; exact .inr h; (exfalso; omega))
        replace ho155 := Vot.keep ho155 hk183 (fun q hq hs => (fun q h1 h2 => dis161 q h2 h1) q hs hq)
        have own189 : ∀ q, F184 q → 0 ≤ q ∧ q ≠ b1 ∧ q ≠ b66 ∧ q ≠ b123 := fun q hq => by rcases hfr186 q hq with h | h; (have h1 := hGo q h; have h2 := hGlt q h; omega); omega
        have lt188 := Led.lt ho185
        have rel190 : ∀ q, F184 q → G q ∨ w.heap.size ≤ q := fun q hq => by rcases hfr186 q hq with h | h; exact hGr q h; exact .inr (by omega)
        have dis191 : ∀ q, F184 q → ¬ F154 q := fun q h1 h2 => by rcases hfr186 q h1 with h | h; exact (fun q h1 h2 => dis161 q h2 h1) q h h2; (have h4 := lt158 q h2; omega)
        obtain ⟨hvlhm192, hm192⟩ := Vot.vblk ho155
        have hF193 := Vot.at_ ho155
        have hvlt := hm192.lt
        have hlov := lt158 _ hF193
        have hov := own159 _ hF193
        obtain ⟨hm194, hF195⟩ := Vot.pollB ho155 hqb16w48 hs141
        have hb16lt := hm194.lt
        have hlob16 := lt158 _ hF195
        have hob16 := own159 _ hF195
        obtain ⟨hF197, hm196⟩ := Vot.recN ho155 hgc43 hd32
        have hq38lt := hm196.lt
        have hloq38 := lt158 _ hF197
        have hoq38 := own159 _ hF197
        have hneb16v : b16 ≠ v := Blk.ne hm194 hm192 (by decide)
        have hneq38v : q38 ≠ v := Blk.ne hm196 hm192 (by decide)
        have hneq38b16 : q38 ≠ b16 := Blk.ne hm196 hm194 (by decide)
        refine OI_end rfl ?_
        refine X_then ?_
        refine V_seq ?_
        refine V_region ?_
        refine OI_static 1 [(10, nt 0)] (by kernel_rfl) ?_
        refine OI_end rfl ?_
        refine X_then ?_
        refine V_ret ?_
        have hE198 : voteE xs s who ref x = 0 := by unfold voteE; rw [if_neg (by rintro (h9 | h9); exact h9 hg8; exact h9 hc14)]; rw [hpa16]; dsimp only; rw [if_neg (fun h9 => h9 hc30)]; rw [if_neg (by rw [hd32]; decide)]; rw [if_neg hc81]; rw [if_neg (fun h9 => by rw [(show (GV.getC who ref s.cs).isSome = true from by simpa using hg83)] at h9; cases h9.1)]
        have hVT : voteT s who ref x q16 = tv140 := by unfold voteT; rw [(show (GV.getC who ref s.cs).isSome = true from by simpa using hg83), htv140, htv109]; rfl
        exact X_return (nt 0) rfl ⟨by rw [hE198], ⟨F154, F184, ⟨_, by rw [show voteS xs s who ref x = ({ (s.setP i16 { q16 with t := tv109 }).setP i16 { q16 with t := tv140 } with cs := GV.setC who ref x ((s.setP i16 { q16 with t := tv109 }).setP i16 { q16 with t := tv140 }).cs }) from by unfold voteS; rw [hE198, if_pos rfl, hpa16]; dsimp only; rw [hVT, hpr16, Int.toNat_natCast]; first | rfl | (simp only [VS.setP_setP]; rfl)]; exact ho155⟩, by rw [show voteC xs cs s who ref x = raiseC cs who q16.track (capI x) from by unfold voteC; rw [hE198, if_pos rfl, hpa16]]; exact ho185, rel160, rel190, (fun q h1 h2 => dis191 q h2 h1)⟩, hK0⟩
       ·
        refine OI_eq [(0, pt v), (1, pt l), (2, nt who), (3, nt ref), (9, pt b1), (11, pt b16), (12, pt q38), (13, pt b66), (14, .bool ((GV.getC who ref s.cs).isSome)), (76, .bool true)] (by first | rfl | rw [hg83]) ?_
        refine OI_static 8 [(0, pt v), (1, pt l), (2, nt who), (3, nt ref), (9, pt b1), (11, pt b16), (12, pt q38), (13, pt b66), (14, .bool ((GV.getC who ref s.cs).isSome)), (76, .bool true), (77, pt v), (78, nt who), (81, pt b16)] (by kernel_rfl) ?_
        refine OI_cell 3 (.tmp 81) 0 (nt ((q16).track)) (some 82) (by kernel_rfl) (by kernel_rfl) hm57 (m := 1) (by kernel_rfl) rfl ?_
        refine OI_call { callee := (Callee.value (Operand.func 30)), args := #[(Operand.tmp 77), (Operand.tmp 78), (Operand.tmp 82)], argTypes := #[29, 3, 3] } 30 #[pt v, nt who, nt ((q16).track)] (some 83) (by kernel_rfl) (by kernel_rfl) (by kernel_rfl) (count_spec F40 v P39 s who ((q16).track) _ ho41) ?_
        rintro _ w201 ⟨rfl, hk202⟩
        refine ⟨_, rfl, ?_⟩
        have hsz203 := Keep.size hk202
        replace hb1 := hb1.keep hk202 (fun f => f)
        replace hm55 := hm55.keep hk202 (fun f => f)
        replace hm57 := hm57.keep hk202 (fun f => f)
        replace hm59 := hm59.keep hk202 (fun f => f)
        replace hb66_71 := hb66_71.keep hk202 (fun f => f)
        replace hl := Led.keep hl hk202 (fun _ _ f => f)
        replace hK0 := Keep.tr hK0 (Keep.ofNone hk202)
        replace ho41 := Vot.keep ho41 hk202 (fun _ _ f => f)
        refine OI_static 13 [(0, pt v), (1, pt l), (2, nt who), (3, nt ref), (9, pt b1), (11, pt b16), (12, pt q38), (13, pt b66), (14, .bool ((GV.getC who ref s.cs).isSome)), (73, .bool (decide ((((vrow s who ((q16).track)).length : Nat) : Int) ≥ 6)))] (by kernel_rfl) ?_
        refine OI_end rfl ?_
        refine X_then ?_
        refine V_if ((((vrow s who ((q16).track)).length : Nat) : Int) ≥ 6) (by kernel_rfl) (fun hc204 => ?_) (fun hc204 => ?_)
        ·
         refine V_seq ?_
         refine V_region ?_
         refine OI_static 1 [(10, nt 3)] (by kernel_rfl) ?_
         refine OI_end rfl ?_
         refine X_then ?_
         refine V_ret ?_
         refine X_ret_block ?_
         refine X_ret_then ?_
         have hE205 : voteE xs s who ref x = 3 := by unfold voteE; rw [if_neg (by rintro (h9 | h9); exact h9 hg8; exact h9 hc14)]; rw [hpa16]; dsimp only; rw [if_neg (fun h9 => h9 hc30)]; rw [if_neg (by rw [hd32]; decide)]; rw [if_neg hc81]; rw [if_pos ⟨(show (GV.getC who ref s.cs).isSome = false from by simpa using hg83), hc204⟩]
         exact X_return (nt 3) rfl ⟨by rw [hE205], ⟨F40, G, ⟨_, by rw [show voteS xs s who ref x = s from by unfold voteS; rw [hE205, if_neg (by decide)]]; exact ho41⟩, by rw [show voteC xs cs s who ref x = cs from by unfold voteC; rw [hE205, if_neg (by decide)]]; exact hl, rel53, hGr, dis54⟩, hK0⟩
        ·
         refine V_skip ?_
         refine X_block ?_
         refine X_then ?_
         refine V_seq ?_
         refine V_seq ?_
         refine V_region ?_
         refine OI_static 1 [(0, pt v), (1, pt l), (2, nt who), (3, nt ref), (9, pt b1), (11, pt b16), (12, pt q38), (13, pt b66), (86, .bool ((GV.getC who ref s.cs).isSome))] (by kernel_rfl) ?_
         refine OI_end rfl ?_
         refine X_then ?_
         refine V_eq [(0, pt v), (1, pt l), (2, nt who), (3, nt ref), (9, pt b1), (11, pt b16), (12, pt q38), (13, pt b66), (86, .bool false)] (by rw [(show (GV.getC who ref s.cs).isSome = false from by simpa using hg83)]) ?_
         refine V_false rfl ?_
         refine V_skip ?_
         refine X_then ?_
         refine V_seq ?_
         refine V_draws (acts [10, 11, 12, 15]) none_ [[5, 6, 7, 8, 9, 10, 11, 1, 2, 3, 4, 12, 0, 13, 14, 15]] (by kernel_rfl) (by repeat first | exact sure_body (by rintro _ _ ⟨h, _⟩; exact ⟨_, h⟩) | refine sure_then ?_ | refine sure_block ?_ | refine sure_join ?_) (by kernel_rfl) ?_
         intro w208 hk207 he209 L hL210
         have hsz211 := Keep.size hk207
         replace hb1 := hb1.keep hk207 (fun f => f)
         replace hm55 := hm55.keep hk207 (fun f => f)
         replace hm57 := hm57.keep hk207 (fun f => f)
         replace hm59 := hm59.keep hk207 (fun f => f)
         replace hb66_71 := hb66_71.keep hk207 (fun f => f)
         replace hl := Led.keep hl hk207 (fun _ _ f => f)
         replace hK0 := Keep.tr hK0 (Keep.ofNone hk207)
         replace ho41 := Vot.keep ho41 hk207 (fun _ _ f => f)
         have qhb1 := hb1
         have qhm55 := hm55
         have qhm57 := hm57
         have qhm59 := hm59
         have qhb66_71 := hb66_71
         have K212 : Keep none_ w208 w208 := Keep.refl _ _
         obtain rfl := List.mem_singleton.1 hL210
         refine GI_agg 26 (.tmp 9) 0 (Vt.cells x) (some 106) (by kernel_rfl) (by kernel_rfl) (by kernel_rfl) qhb1 (fun f => f) (m := 6) (by kernel_rfl) (take_all (Vt.len _)) (Vt.len _) ?_
         refine GI_static [9, 10, 11, 1, 2, 3, 4, 12, 0, 13, 14, 15] [(0, pt v), (1, pt l), (2, nt who), (3, nt ref), (9, pt b1), (11, pt b16), (106, .agg (Vt.cells x).toArray), (109, .pointer (some ⟨q38, 1, none⟩))] (by kernel_rfl) ?_
         refine GI_agg 74 (.tmp 109) 1 [nt (((s.rc who ((q16).track))).got.v), nt (((s.rc who ((q16).track))).got.c)] (some 110) (by kernel_rfl) (by kernel_rfl) (by kernel_rfl) qhm59 (fun f => f) (m := 2) (by kernel_rfl) rfl rfl ?_
         refine GI_call { callee := (Callee.value (Operand.func 32)), args := #[(Operand.tmp 106), (Operand.tmp 110)], argTypes := #[26, 74] } 32 #[.agg (Vt.cells x).toArray, .agg #[nt (((s.rc who ((q16).track))).got.v), nt (((s.rc who ((q16).track))).got.c)]] (some 111) (by kernel_rfl) (by kernel_rfl) (by kernel_rfl) (by kernel_rfl) (cvGain_spec x (((s.rc who ((q16).track))).got) _) ?_
         rintro _ w215 ⟨rfl, hk216⟩
         have K217 := K212.tr (Keep.ofNone hk216)
         refine ⟨_, rfl, K217, ?_⟩
         have hzK217 := Keep.size K217
         have hsz218 := Keep.size hk216
         replace hb1 := hb1.keep hk216 (fun f => f)
         replace hm55 := hm55.keep hk216 (fun f => f)
         replace hm57 := hm57.keep hk216 (fun f => f)
         replace hm59 := hm59.keep hk216 (fun f => f)
         replace hb66_71 := hb66_71.keep hk216 (fun f => f)
         replace hl := Led.keep hl hk216 (fun _ _ f => f)
         replace hK0 := Keep.tr hK0 (Keep.ofNone hk216)
         replace ho41 := Vot.keep ho41 hk216 (fun _ _ f => f)
         refine GI_slit (E := 43) (zv := .agg #[nt 0, nt 0, nt 0]) (sz := 3) (by_ := 24) 129 1 #[(0, (Operand.tmp 111))] [.agg (Tly.cells (gainT x (((s.rc who ((q16).track))).got))).toArray] (Tly.cells (gainT x (((s.rc who ((q16).track))).got))) (some 112) (by kernel_rfl) (by kernel_rfl) K217 (by kernel_rfl) (by kernel_rfl) (by omega) rfl (by omega) (by intro v hv; obtain rfl := List.mem_singleton.1 hv; show (Tly.cells (gainT x (((s.rc who ((q16).track))).got))).toArray.size = 3; simp [Tly.len]) (by kernel_rfl) (by show (Tly.cells (gainT x (((s.rc who ((q16).track))).got))).toArray.toList ++ [] = _; simp) ?_
         intro b219 w219 e219 hb219 k219 z219 K220
         have hsz221 := Keep.size k219
         replace hb1 := hb1.keep k219 (fun f => f)
         replace hm55 := hm55.keep k219 (fun f => f)
         replace hm57 := hm57.keep k219 (fun f => f)
         replace hm59 := hm59.keep k219 (fun f => f)
         replace hb66_71 := hb66_71.keep k219 (fun f => f)
         replace hl := Led.keep hl k219 (fun _ _ f => f)
         replace hK0 := Keep.tr hK0 (Keep.ofNone k219)
         replace ho41 := Vot.keep ho41 k219 (fun _ _ f => f)
         have hb219lt := hb219.lt
         refine GI_static [4, 12, 0, 13, 14, 15] [(0, pt v), (1, pt l), (2, nt who), (3, nt ref), (9, pt b1), (11, pt b16), (104, .pointer (some ⟨b16, 1, none⟩)), (112, .slice (some ⟨b219, 0, none⟩) 1 1)] (by kernel_rfl) ?_
         refine GI_agg 43 (.tmp 104) 1 [nt ((q16).t.a), nt ((q16).t.n), nt ((q16).t.s)] (some 105) (by kernel_rfl) (by kernel_rfl) (by kernel_rfl) qhm57 (fun f => f) (m := 3) (by kernel_rfl) rfl rfl ?_
         refine GI_call { callee := (Callee.value (Operand.func 33)), args := #[(Operand.tmp 105), (Operand.tmp 112)], argTypes := #[43, 129] } 33 #[.agg #[nt ((q16).t.a), nt ((q16).t.n), nt ((q16).t.s)], .slice (some ⟨b219, 0, none⟩) 1 1] (some 113) (by kernel_rfl) (by kernel_rfl) (by kernel_rfl) (by kernel_rfl) (cvAdd1 b219 (Tly.mk ((q16).t.a) ((q16).t.n) ((q16).t.s)) (gainT x (((s.rc who ((q16).track))).got)) _ _ hb219) ?_
         rintro _ w226 ⟨rfl, hk227⟩
         have K228 := K220.tr (Keep.ofNone hk227)
         refine ⟨_, rfl, K228, ?_⟩
         have hzK228 := Keep.size K228
         have hsz229 := Keep.size hk227
         replace hb1 := hb1.keep hk227 (fun f => f)
         replace hm55 := hm55.keep hk227 (fun f => f)
         replace hm57 := hm57.keep hk227 (fun f => f)
         replace hm59 := hm59.keep hk227 (fun f => f)
         replace hb66_71 := hb66_71.keep hk227 (fun f => f)
         replace hb219 := hb219.keep hk227 (fun f => f)
         replace hl := Led.keep hl hk227 (fun _ _ f => f)
         replace hK0 := Keep.tr hK0 (Keep.ofNone hk227)
         replace ho41 := Vot.keep ho41 hk227 (fun _ _ f => f)
         refine GI_static [15] [(0, pt v), (1, pt l), (2, nt who), (3, nt ref), (9, pt b1), (11, pt b16), (113, .agg (Tly.cells (addT (Tly.mk ((q16).t.a) ((q16).t.n) ((q16).t.s)) (gainT x (((s.rc who ((q16).track))).got)))).toArray), (115, .pointer (some ⟨b16, 1, none⟩))] (by kernel_rfl) ?_
         refine GI_final 15 (by kernel_rfl) (by kernel_rfl) ?_
         refine OI_set (m := 3) (kd := true) 43 (.tmp 115) (.tmp 113) 1 (.agg (Tly.cells (addT (Tly.mk ((q16).t.a) ((q16).t.n) ((q16).t.s)) (gainT x (((s.rc who ((q16).track))).got)))).toArray) (Tly.cells (addT (Tly.mk ((q16).t.a) ((q16).t.n) ((q16).t.s)) (gainT x (((s.rc who ((q16).track))).got)))) none (by kernel_rfl) (by kernel_rfl) (by kernel_rfl) hm57 (by kernel_rfl) rfl (Tly.len _) (Nat.le_of_ble_eq_true (by kernel_rfl)) (Tly.one _) ?_
         intro w230 hn233 hk231 hz232
         replace hn233 : Blk w230 b16 (PollS.cells { q16 with t := (addT (Tly.mk ((q16).t.a) ((q16).t.n) ((q16).t.s)) (gainT x (((s.rc who ((q16).track))).got))) }) 61 := hn233
         have hsz234 := Keep.size hk231
         replace hb1 := hb1.keep hk231 (by show ¬ (b1 = b16); omega)
         replace hm55 := hm55.keep hk231 (by show ¬ (v = b16); omega)
         replace hm59 := hm59.keep hk231 (by show ¬ (q38 = b16); omega)
         replace hb66_71 := hb66_71.keep hk231 (by show ¬ (b66 = b16); omega)
         replace hb219 := hb219.keep hk231 (by show ¬ (b219 = b16); omega)
         replace hl := Led.keep hl hk231 (fun q hq hs => (fun q h1 h2 => dis54 q h2 h1) q hq (by rw [show q = b16 from hs]; exact hF58))
         replace hK0 := Keep.fresh hK0 hk231 (fun i hi hs => by have hs : F40 i := (by rw [show i = b16 from hs]; exact hF58); rcases rel53 i hs with h | h; exact .inl h; (exfalso; omega))
         obtain ⟨tv236, htv236⟩ : ∃ t9 : Tly, t9 = (addT (Tly.mk ((q16).t.a) ((q16).t.n) ((q16).t.s)) (gainT x (((s.rc who ((q16).track))).got))) := ⟨_, rfl⟩
         rw [← htv236] at hn233
         have ho235 := Vot.setPoll ho41 hqb16w48 hps16 hk231 (show Blk _ _ (PollS.cells { q16 with t := tv236 }) _ from hn233)
         have hs237 : (s.setP i16 { q16 with t := tv236 }).ps[i16]? = some (some { q16 with t := tv236 }) := List.getElem?_set_self (List.getElem?_eq_some_iff.1 hps16).1
         have hb16lt := hn233.lt
         refine OI_end rfl ?_
         refine X_then ?_
         refine V_seq ?_
         refine V_draws (acts [7]) none_ [[0, 1, 2, 3, 4, 5, 6, 7]] (by kernel_rfl) (by repeat first | exact sure_body (by rintro _ _ ⟨h, _⟩; exact ⟨_, h⟩) | refine sure_then ?_ | refine sure_block ?_ | refine sure_join ?_) (by kernel_rfl) ?_
         intro w239 hk238 he240 L hL241
         have hsz242 := Keep.size hk238
         replace hb1 := hb1.keep hk238 (fun f => f)
         replace hm55 := hm55.keep hk238 (fun f => f)
         replace hm59 := hm59.keep hk238 (fun f => f)
         replace hb66_71 := hb66_71.keep hk238 (fun f => f)
         replace hb219 := hb219.keep hk238 (fun f => f)
         replace hn233 := hn233.keep hk238 (fun f => f)
         replace hl := Led.keep hl hk238 (fun _ _ f => f)
         replace hK0 := Keep.tr hK0 (Keep.ofNone hk238)
         replace ho235 := Vot.keep ho235 hk238 (fun _ _ f => f)
         have qhb1 := hb1
         have qhm55 := hm55
         have qhm59 := hm59
         have qhb66_71 := hb66_71
         have qhb219 := hb219
         have qhn233 := hn233
         have K243 : Keep none_ w239 w239 := Keep.refl _ _
         obtain rfl := List.mem_singleton.1 hL241
         refine GI_static [3, 4, 5, 6, 7] [(1, pt l), (2, nt who), (3, nt ref), (9, pt b1), (11, pt b16), (118, .pointer (some ⟨v, 12, none⟩))] (by kernel_rfl) ?_
         refine GI_cell 63 (.tmp 118) 12 (pt P39.gv) (some 119) (by kernel_rfl) (by kernel_rfl) (by kernel_rfl) qhm55 (fun f => f) (m := 1) (by kernel_rfl) (by rw [List.getElem?_append_right (by rw [List.length_map]; omega), List.length_map, hvlhm55]; rfl) ?_
         refine GI_static [6, 7] [(1, pt l), (2, nt who), (9, pt b1), (11, pt b16), (119, pt P39.gv), (120, nt who), (121, nt ref)] (by kernel_rfl) ?_
         refine GI_agg 26 (.tmp 9) 0 (Vt.cells x) (some 122) (by kernel_rfl) (by kernel_rfl) (by kernel_rfl) qhb1 (fun f => f) (m := 6) (by kernel_rfl) (take_all (Vt.len _)) (Vt.len _) ?_
         refine GI_final 7 (by kernel_rfl) (by kernel_rfl) ?_
         refine OI_call { callee := (Callee.value (Operand.func 34)), args := #[(Operand.tmp 119), (Operand.tmp 120), (Operand.tmp 121), (Operand.tmp 122)], argTypes := #[63, 3, 3, 26] } 34 #[pt P39.gv, nt who, nt ref, .agg (Vt.cells x).toArray] (some 123) (by kernel_rfl) (by kernel_rfl) (by kernel_rfl) (vset_spec F40 v P39 (s.setP i16 { q16 with t := tv236 }) who ref x _ ho235 (by omega) (by omega) hc14 (by rw [hpr16, Int.toNat_natCast]; exact ⟨_, hs237⟩)) ?_
         rintro _ w248 ⟨rfl, ⟨F250, ho251, hfr252⟩, hk249⟩
         refine ⟨_, rfl, ?_⟩
         have hsz253 := Keep.size hk249
         replace hb1 := hb1.keep hk249 (fun hs => by have h1 := own52 _ hs; have h2 := lt51 _ hs; omega)
         replace hb66_71 := hb66_71.keep hk249 (fun hs => by have h1 := own52 _ hs; have h2 := lt51 _ hs; omega)
         replace hb219 := hb219.keep hk249 (fun hs => by have h1 := own52 _ hs; have h2 := lt51 _ hs; omega)
         replace hl := Led.keep hl hk249 (fun q hq hs => dis54 q hs hq)
         replace hK0 := Keep.fresh hK0 hk249 (fun i hi hs => by rcases rel53 i hs with h | h; exact .inl h; (exfalso; omega))
         have own255 : ∀ q, F250 q → 0 ≤ q ∧ q ≠ b1 ∧ q ≠ b66 ∧ q ≠ b219 := fun q hq => by rcases hfr252 q hq with h | h; (have h1 := own52 q h; have h2 := lt51 q h; omega); omega
         have lt254 := Vot.lt ho251
         have rel256 : ∀ q, F250 q → F q ∨ w.heap.size ≤ q := fun q hq => by rcases hfr252 q hq with h | h; exact rel53 q h; exact .inr (by omega)
         have dis257 : ∀ q, F250 q → ¬ G q := fun q h1 h2 => by rcases hfr252 q h1 with h | h; exact dis54 q h h2; (have h4 := hGlt q h2; omega)
         obtain ⟨hvlhm258, hm258⟩ := Vot.vblk ho251
         have hF259 := Vot.at_ ho251
         have hvlt := hm258.lt
         have hlov := lt254 _ hF259
         have hov := own255 _ hF259
         obtain ⟨hm260, hF261⟩ := Vot.pollB ho251 hqb16w48 hs237
         have hb16lt := hm260.lt
         have hlob16 := lt254 _ hF261
         have hob16 := own255 _ hF261
         obtain ⟨hF263, hm262⟩ := Vot.recN ho251 hgc43 hd32
         have hq38lt := hm262.lt
         have hloq38 := lt254 _ hF263
         have hoq38 := own255 _ hF263
         have hneb16v : b16 ≠ v := Blk.ne hm260 hm258 (by decide)
         have hneq38v : q38 ≠ v := Blk.ne hm262 hm258 (by decide)
         have hneq38b16 : q38 ≠ b16 := Blk.ne hm262 hm260 (by decide)
         refine OI_end rfl ?_
         refine X_then ?_
         refine V_seq ?_
         refine V_draws (acts [7, 8]) none_ [[6, 7, 0, 1, 2, 3, 4, 5, 8]] (by kernel_rfl) (by repeat first | exact sure_body (by rintro _ _ ⟨h, _⟩; exact ⟨_, h⟩) | refine sure_then ?_ | refine sure_block ?_ | refine sure_join ?_) (by kernel_rfl) ?_
         intro w265 hk264 he266 L hL267
         have hsz268 := Keep.size hk264
         replace hb1 := hb1.keep hk264 (fun f => f)
         replace hb66_71 := hb66_71.keep hk264 (fun f => f)
         replace hb219 := hb219.keep hk264 (fun f => f)
         replace hm258 := hm258.keep hk264 (fun f => f)
         replace hm260 := hm260.keep hk264 (fun f => f)
         replace hm262 := hm262.keep hk264 (fun f => f)
         replace hl := Led.keep hl hk264 (fun _ _ f => f)
         replace hK0 := Keep.tr hK0 (Keep.ofNone hk264)
         replace ho251 := Vot.keep ho251 hk264 (fun _ _ f => f)
         have qhb1 := hb1
         have qhb66_71 := hb66_71
         have qhb219 := hb219
         have qhm258 := hm258
         have qhm260 := hm260
         have qhm262 := hm262
         have K269 : Keep none_ w265 w265 := Keep.refl _ _
         obtain rfl := List.mem_singleton.1 hL267
         refine GI_agg 26 (.tmp 9) 0 (Vt.cells x) (some 130) (by kernel_rfl) (by kernel_rfl) (by kernel_rfl) qhb1 (fun f => f) (m := 6) (by kernel_rfl) (take_all (Vt.len _)) (Vt.len _) ?_
         refine GI_call { callee := (Callee.value (Operand.func 28)), args := #[(Operand.tmp 130)], argTypes := #[26] } 28 #[.agg (Vt.cells x).toArray] (some 131) (by kernel_rfl) (by kernel_rfl) (by kernel_rfl) (by kernel_rfl) (cvCapital_spec x _) ?_
         rintro _ w272 ⟨rfl, hk273⟩
         have K274 := K269.tr (Keep.ofNone hk273)
         refine ⟨_, rfl, K274, ?_⟩
         have hzK274 := Keep.size K274
         have hsz275 := Keep.size hk273
         replace hb1 := hb1.keep hk273 (fun f => f)
         replace hb66_71 := hb66_71.keep hk273 (fun f => f)
         replace hb219 := hb219.keep hk273 (fun f => f)
         replace hm258 := hm258.keep hk273 (fun f => f)
         replace hm260 := hm260.keep hk273 (fun f => f)
         replace hm262 := hm262.keep hk273 (fun f => f)
         replace hl := Led.keep hl hk273 (fun _ _ f => f)
         replace hK0 := Keep.tr hK0 (Keep.ofNone hk273)
         replace ho251 := Vot.keep ho251 hk273 (fun _ _ f => f)
         refine GI_static [5, 8] [(124, pt l), (125, nt who), (128, pt b16), (131, nt (capI x))] (by kernel_rfl) ?_
         refine GI_cell 3 (.tmp 128) 0 (nt ((q16).track)) (some 129) (by kernel_rfl) (by kernel_rfl) (by kernel_rfl) qhm260 (fun f => f) (m := 1) (by kernel_rfl) rfl ?_
         refine GI_final 8 (by kernel_rfl) (by kernel_rfl) ?_
         refine OI_call { callee := (Callee.value (Operand.func 35)), args := #[(Operand.tmp 124), (Operand.tmp 125), (Operand.tmp 129), (Operand.tmp 131)], argTypes := #[28, 3, 3, 3] } 35 #[pt l, nt who, nt ((q16).track), nt (capI x)] (some 132) (by kernel_rfl) (by kernel_rfl) (by kernel_rfl) (raise_spec G l xs cs who ((q16).track) (capI x) _ hl hmax) ?_
         rintro _ w278 ⟨rfl, ⟨F280, ho281, hfr282⟩, hk279⟩
         refine ⟨_, rfl, ?_⟩
         have hsz283 := Keep.size hk279
         replace hb1 := hb1.keep hk279 (fun hs => by have h1 := hGo _ hs; have h2 := hGlt _ hs; omega)
         replace hb66_71 := hb66_71.keep hk279 (fun hs => by have h1 := hGo _ hs; have h2 := hGlt _ hs; omega)
         replace hb219 := hb219.keep hk279 (fun hs => by have h1 := hGo _ hs; have h2 := hGlt _ hs; omega)
         replace hK0 := Keep.fresh hK0 hk279 (fun i hi hs => by rcases hGr i hs with h | h; exact .inr h; (exfalso; omega))
         replace ho251 := Vot.keep ho251 hk279 (fun q hq hs => (fun q h1 h2 => dis257 q h2 h1) q hs hq)
         have own285 : ∀ q, F280 q → 0 ≤ q ∧ q ≠ b1 ∧ q ≠ b66 ∧ q ≠ b219 := fun q hq => by rcases hfr282 q hq with h | h; (have h1 := hGo q h; have h2 := hGlt q h; omega); omega
         have lt284 := Led.lt ho281
         have rel286 : ∀ q, F280 q → G q ∨ w.heap.size ≤ q := fun q hq => by rcases hfr282 q hq with h | h; exact hGr q h; exact .inr (by omega)
         have dis287 : ∀ q, F280 q → ¬ F250 q := fun q h1 h2 => by rcases hfr282 q h1 with h | h; exact (fun q h1 h2 => dis257 q h2 h1) q h h2; (have h4 := lt254 q h2; omega)
         obtain ⟨hvlhm288, hm288⟩ := Vot.vblk ho251
         have hF289 := Vot.at_ ho251
         have hvlt := hm288.lt
         have hlov := lt254 _ hF289
         have hov := own255 _ hF289
         obtain ⟨hm290, hF291⟩ := Vot.pollB ho251 hqb16w48 hs237
         have hb16lt := hm290.lt
         have hlob16 := lt254 _ hF291
         have hob16 := own255 _ hF291
         obtain ⟨hF293, hm292⟩ := Vot.recN ho251 hgc43 hd32
         have hq38lt := hm292.lt
         have hloq38 := lt254 _ hF293
         have hoq38 := own255 _ hF293
         have hneb16v : b16 ≠ v := Blk.ne hm290 hm288 (by decide)
         have hneq38v : q38 ≠ v := Blk.ne hm292 hm288 (by decide)
         have hneq38b16 : q38 ≠ b16 := Blk.ne hm292 hm290 (by decide)
         refine OI_end rfl ?_
         refine X_then ?_
         refine V_seq ?_
         refine V_region ?_
         refine OI_static 1 [(10, nt 0)] (by kernel_rfl) ?_
         refine OI_end rfl ?_
         refine X_then ?_
         refine V_ret ?_
         have hE294 : voteE xs s who ref x = 0 := by unfold voteE; rw [if_neg (by rintro (h9 | h9); exact h9 hg8; exact h9 hc14)]; rw [hpa16]; dsimp only; rw [if_neg (fun h9 => h9 hc30)]; rw [if_neg (by rw [hd32]; decide)]; rw [if_neg hc81]; rw [if_neg (fun h9 => hc204 h9.2)]
         have hVT : voteT s who ref x q16 = tv236 := by unfold voteT; rw [(show (GV.getC who ref s.cs).isSome = false from by simpa using hg83), htv236]; rfl
         exact X_return (nt 0) rfl ⟨by rw [hE294], ⟨F250, F280, ⟨_, by rw [show voteS xs s who ref x = ({ s.setP i16 { q16 with t := tv236 } with cs := GV.setC who ref x (s.setP i16 { q16 with t := tv236 }).cs }) from by unfold voteS; rw [hE294, if_pos rfl, hpa16]; dsimp only; rw [hVT, hpr16, Int.toNat_natCast]; first | rfl | (simp only [VS.setP_setP]; rfl)]; exact ho251⟩, by rw [show voteC xs cs s who ref x = raiseC cs who q16.track (capI x) from by unfold voteC; rw [hE294, if_pos rfl, hpa16]]; exact ho281, rel256, rel286, (fun q h1 h2 => dis287 q h2 h1)⟩, hK0⟩
     ·
      refine OI_call { callee := (Callee.value (Operand.func 26)), args := #[(Operand.tmp 43), (Operand.tmp 44), (Operand.tmp 48)], argTypes := #[29, 3, 3] } 26 #[pt v, nt who, nt ((q16).track)] (some 49) (by kernel_rfl) (by kernel_rfl) (by kernel_rfl) (record_spec F v P s who ((q16).track) _ h (by omega) (htr _ _ (by assumption))) ?_
      rintro _ w309 ⟨q299, P300, rfl, hgc304, hpp305, hgv306, hmn307, hdl308, ⟨F301, ho302, hfr303⟩, hk310⟩
      refine ⟨_, rfl, ?_⟩
      have hsz311 := Keep.size hk310
      replace hb1 := hb1.keep hk310 (fun hs => by have h1 := hFo _ hs; have h2 := hFlt _ hs; omega)
      replace hl := Led.keep hl hk310 (fun q hq hs => hdis q hs hq)
      replace hK0 := Keep.fresh hK0 hk310 (fun i hi hs => by rcases hFr i hs with h | h; exact .inl h; (exfalso; omega))
      have own313 : ∀ q, F301 q → 0 ≤ q ∧ q ≠ b1 := fun q hq => by rcases hfr303 q hq with h | h; (have h1 := hFo q h; have h2 := hFlt q h; omega); omega
      have lt312 := Vot.lt ho302
      have rel314 : ∀ q, F301 q → F q ∨ w.heap.size ≤ q := fun q hq => by rcases hfr303 q hq with h | h; exact hFr q h; exact .inr (by omega)
      have dis315 : ∀ q, F301 q → ¬ G q := fun q h1 h2 => by rcases hfr303 q h1 with h | h; exact hdis q h h2; (have h4 := hGlt q h2; omega)
      have hqb16w309 := (show P300.pp[i16]? = some (some ⟨b16, 0, none⟩) from by rw [hpp305]; exact hpp16)
      have hgq299lt := lt312 _ (Vot.at_ ho302)
      obtain ⟨hvlhm316, hm316⟩ := Vot.vblk ho302
      have hF317 := Vot.at_ ho302
      have hvlt := hm316.lt
      have hlov := lt312 _ hF317
      have hov := own313 _ hF317
      obtain ⟨hm318, hF319⟩ := Vot.pollB ho302 hqb16w309 hps16
      have hb16lt := hm318.lt
      have hlob16 := lt312 _ hF319
      have hob16 := own313 _ hF319
      obtain ⟨bd322, hF321, hF323, hm320, hm324⟩ := Vot.recD ho302 hgc304 hd32
      have hbd322lt := hm324.lt
      have hlobd322 := lt312 _ hF323
      have hobd322 := own313 _ hF323
      have hq299lt := hm320.lt
      have hloq299 := lt312 _ hF321
      have hoq299 := own313 _ hF321
      have hneb16v : b16 ≠ v := Blk.ne hm318 hm316 (by decide)
      have hneq299v : q299 ≠ v := Blk.ne hm320 hm316 (by decide)
      have hneq299b16 : q299 ≠ b16 := Blk.ne hm320 hm318 (by decide)
      have hnebd322v : bd322 ≠ v := Blk.ne hm324 hm316 (by decide)
      have hnebd322b16 : bd322 ≠ b16 := Blk.ne hm324 hm318 (by decide)
      have hnebd322q299 : bd322 ≠ q299 := Blk.ne hm324 hm320 (by decide)
      refine OI_static 8 [(0, pt v), (1, pt l), (2, nt who), (3, nt ref), (9, pt b1), (11, pt b16), (12, pt q299)] (by kernel_rfl) ?_
      refine OI_end rfl ?_
      refine X_then ?_
      refine V_seq ?_
      refine V_region ?_
      refine OI_static 3 [(0, pt v), (1, pt l), (2, nt who), (3, nt ref), (9, pt b1), (11, pt b16), (12, pt q299), (53, .pointer (some ⟨v, 12, none⟩))] (by kernel_rfl) ?_
      refine OI_cell 63 (.tmp 53) 12 (pt P300.gv) (some 54) (by kernel_rfl) (by kernel_rfl) hm316 (m := 1) (by kernel_rfl) (by rw [List.getElem?_append_right (by rw [List.length_map]; omega), List.length_map, hvlhm316]; rfl) ?_
      refine OI_static 6 [(0, pt v), (1, pt l), (2, nt who), (3, nt ref), (9, pt b1), (11, pt b16), (12, pt q299), (54, pt P300.gv), (55, nt who), (56, nt ref)] (by kernel_rfl) ?_
      refine OI_call { callee := (Callee.value (Operand.func 27)), args := #[(Operand.tmp 54), (Operand.tmp 55), (Operand.tmp 56)], argTypes := #[63, 3, 3] } 27 #[pt P300.gv, nt who, nt ref] (some 57) (by kernel_rfl) (by kernel_rfl) (by kernel_rfl) (vget_spec F301 v P300 s who ref _ ho302) ?_
      rintro _ w327 ⟨rfl, hk328⟩
      refine ⟨_, rfl, ?_⟩
      have hsz329 := Keep.size hk328
      replace hb1 := hb1.keep hk328 (fun f => f)
      replace hm316 := hm316.keep hk328 (fun f => f)
      replace hm318 := hm318.keep hk328 (fun f => f)
      replace hm324 := hm324.keep hk328 (fun f => f)
      replace hm320 := hm320.keep hk328 (fun f => f)
      replace hl := Led.keep hl hk328 (fun _ _ f => f)
      replace hK0 := Keep.tr hK0 (Keep.ofNone hk328)
      replace ho302 := Vot.keep ho302 hk328 (fun _ _ f => f)
      refine OI_static 10 [(0, pt v), (1, pt l), (2, nt who), (3, nt ref), (9, pt b1), (11, pt b16), (12, pt q299), (58, .agg (Vt.cells ((GV.getC who ref s.cs).getD Vt.zero)).toArray), (59, .bool ((GV.getC who ref s.cs).isSome))] (by kernel_rfl) ?_
      refine OI_alloc 26 (.agg #[nt 0, .bool false, nt 0, nt 0, nt 0, nt 0]) [nt 0, .bool false, nt 0, nt 0, nt 0, nt 0] (some 13) (by kernel_rfl) (by kernel_rfl) (by kernel_rfl) ?_
      intro b330 w330 e330 hb330 k330 z330
      have hsz331 := Keep.size k330
      replace hb1 := hb1.keep k330 (fun f => f)
      replace hm316 := hm316.keep k330 (fun f => f)
      replace hm318 := hm318.keep k330 (fun f => f)
      replace hm324 := hm324.keep k330 (fun f => f)
      replace hm320 := hm320.keep k330 (fun f => f)
      replace hl := Led.keep hl k330 (fun _ _ f => f)
      replace hK0 := Keep.tr hK0 (Keep.ofNone k330)
      replace ho302 := Vot.keep ho302 k330 (fun _ _ f => f)
      have hb330lt := hb330.lt
      refine OI_set (m := 6) (kd := true) 26 (.tmp 13) (.tmp 58) 0 (.agg (Vt.cells ((GV.getC who ref s.cs).getD Vt.zero)).toArray) (Vt.cells ((GV.getC who ref s.cs).getD Vt.zero)) none (by kernel_rfl) (by kernel_rfl) (by kernel_rfl) hb330 (by kernel_rfl) rfl (Vt.len _) (Nat.le_of_ble_eq_true (by kernel_rfl)) (Vt.one _) ?_
      intro w332 hb330_335 hk333 hz334
      replace hb330_335 : Blk w332 b330 (Vt.cells ((GV.getC who ref s.cs).getD Vt.zero)) 26 := (by rwa [over_whole (by rw [Vt.len]; rfl)] at hb330_335)
      have hsz336 := Keep.size hk333
      replace hb1 := hb1.keep hk333 (by show ¬ (_ = _); omega)
      replace hm316 := hm316.keep hk333 (by show ¬ (_ = _); omega)
      replace hm318 := hm318.keep hk333 (by show ¬ (_ = _); omega)
      replace hm324 := hm324.keep hk333 (by show ¬ (_ = _); omega)
      replace hm320 := hm320.keep hk333 (by show ¬ (_ = _); omega)
      replace hl := Led.keep hl hk333 (fun q hq hs => by have hs : q = b330 := hs; have g0 := hGo q hq; have g1 := hGlt q hq; omega)
      replace hK0 := Keep.fresh hK0 hk333 (by intro i hi hs; first | exact hs | exact Or.inl hs | exact Or.inr hs | (exfalso; have hs2 : i = b330 := hs; omega))
      replace ho302 := Vot.keep ho302 hk333 (fun q hq hs => by have hs : q = b330 := hs; have g0 := own313 q hq; have g1 := lt312 q hq; omega)
      refine OI_static 13 [(0, pt v), (1, pt l), (2, nt who), (3, nt ref), (9, pt b1), (11, pt b16), (12, pt q299), (13, pt b330), (14, .bool ((GV.getC who ref s.cs).isSome))] (by kernel_rfl) ?_
      refine OI_end rfl ?_
      refine X_then ?_
      refine V_seq ?_
      refine V_block ?_
      refine V_seq ?_
      refine V_region ?_
      refine OI_static 3 [(0, pt v), (1, pt l), (2, nt who), (3, nt ref), (9, pt b1), (11, pt b16), (12, pt q299), (13, pt b330), (14, .bool ((GV.getC who ref s.cs).isSome)), (63, pt q299)] (by kernel_rfl) ?_
      refine OI_cell 72 (.tmp 63) 0 (pt bd322) (some 64) (by kernel_rfl) (by kernel_rfl) hm320 (m := 1) (by kernel_rfl) rfl ?_
      refine OI_static 6 [(0, pt v), (1, pt l), (2, nt who), (3, nt ref), (9, pt b1), (11, pt b16), (12, pt q299), (13, pt b330), (14, .bool ((GV.getC who ref s.cs).isSome)), (60, .bool true)] (by kernel_rfl) ?_
      refine OI_end rfl ?_
      refine X_then ?_
      refine V_true rfl ?_
      refine V_seq ?_
      refine V_region ?_
      refine OI_static 1 [(10, nt 5)] (by kernel_rfl) ?_
      refine OI_end rfl ?_
      refine X_then ?_
      refine V_ret ?_
      refine X_ret_block ?_
      refine X_ret_then ?_
      have hE337 : voteE xs s who ref x = 5 := by unfold voteE; rw [if_neg (by rintro (h9 | h9); exact h9 hg8; exact h9 hc14)]; rw [hpa16]; dsimp only; rw [if_neg (fun h9 => h9 hc30)]; rw [if_pos (by rw [hd32]; rfl)]
      exact X_return (nt 5) rfl ⟨by rw [hE337], ⟨F301, G, ⟨_, by rw [show voteS xs s who ref x = s from by unfold voteS; rw [hE337, if_neg (by decide)]]; exact ho302⟩, by rw [show voteC xs cs s who ref x = cs from by unfold voteC; rw [hE337, if_neg (by decide)]]; exact hl, rel314, hGr, dis315⟩, hK0⟩
 ·
  refine OI_eq [(0, pt v), (1, pt l), (2, nt who), (3, nt ref), (9, pt b1), (26, .bool true)] (by first | simp [hg8] | rfl) ?_
  refine OI_static 16 [(0, pt v), (1, pt l), (2, nt who), (3, nt ref), (9, pt b1), (30, .bool true)] (by kernel_rfl) ?_
  refine OI_end rfl ?_
  refine X_then ?_
  refine V_true rfl ?_
  refine V_seq ?_
  refine V_region ?_
  refine OI_static 1 [(10, nt 1)] (by kernel_rfl) ?_
  refine OI_end rfl ?_
  refine X_then ?_
  refine V_ret ?_
  refine X_ret_then ?_
  have hE338 : voteE xs s who ref x = 1 := by unfold voteE; rw [if_pos (.inl hg8)]
  exact X_return (nt 1) rfl ⟨by rw [hE338], ⟨F, G, ⟨_, by rw [show voteS xs s who ref x = s from by unfold voteS; rw [hE338, if_neg (by decide)]]; exact h⟩, by rw [show voteC xs cs s who ref x = cs from by unfold voteC; rw [hE338, if_neg (by decide)]]; exact hl, hFr, hGr, hdis⟩, hK0⟩
end Go.Al


namespace Go.Al
open Go Go.RowKit Go.Proofs
def delE (xs : List Acc) (s : VS) (who t to level n : Int) : Int := if ¬ (0 ≤ who ∧ who ≤ 9) ∨ ¬ (0 ≤ to ∧ to ≤ 9) ∨ ¬ (0 ≤ t ∧ t ≤ 3) ∨ ¬ (0 ≤ level ∧ level ≤ 6) ∨ ¬ (0 ≤ n ∧ n ≤ 1073741824) ∨ ¬ ¬ who = to then 1
  else if (s.rc who t).d.isSome = true then 5 else if (((vrow s who t).length : Nat) : Int) > 0 then 9 else if n > (acct xs who).free then 6 else 0
def delS (xs : List Acc) (s : VS) (who t to level n : Int) : VS := if delE xs s who t to level n = 0 then getsS (s.setR who t { s.rc who t with d := some (DelS.mk to level n) }) to t (Wgt.mk (cvVotes n level) n) else s
def delC2 (xs : List Acc) (cs : List Ci) (s : VS) (who t to level n : Int) : List Ci := if delE xs s who t to level n = 0 then raiseC cs who t n else cs
end Go.Al


namespace Go.Al
open Go Go.RowKit Go.Proofs
set_option maxRecDepth 10000 in
set_option maxHeartbeats 1000000 in
theorem delegate_at (F G : Nat → Prop) (v l : Nat) (P : VP) (s : VS) (xs : List Acc) (cs : List Ci) (who t to level n : Int) (w : World) (h : Vot F w v P s) (hl : Led G w l xs cs) (hdis : ∀ q, F q → ¬ G q) (hmax : cs.length < 100000) : Calls Try.prog 12 #[.pointer (some ⟨v, 0, none⟩), .pointer (some ⟨l, 0, none⟩), .int .i64 who, .int .i64 t, .int .i64 to, .int .i64 level, .int .i64 n] w fun e w' => e = .returned (.int .i64 (delE xs s who t to level n)) ∧ (∃ F' G', VotE F' w' v (delS xs s who t to level n) ∧ Led G' w' l xs (delC2 xs cs s who t to level n) ∧ (∀ q, F' q → F q ∨ w.heap.size ≤ q) ∧ (∀ q, G' q → G q ∨ w.heap.size ≤ q) ∧ (∀ q, F' q → ¬ G' q)) ∧ Keep (fun q => F q ∨ G q) w w' := by
 have hFlt := Vot.lt h
 have hvlt := hFlt _ (Vot.at_ h)
 have hFo : ∀ q, F q → 0 ≤ q := fun q _ => Nat.zero_le q
 have hFr : ∀ q, F q → F q ∨ w.heap.size ≤ q := fun _ h => .inl h
 have hGlt := Led.lt hl
 have hllt := hGlt _ (Led.at_ hl)
 have hGo : ∀ q, G q → 0 ≤ q := fun q _ => Nat.zero_le q
 have hGr : ∀ q, G q → G q ∨ w.heap.size ≤ q := fun _ h => .inl h
 have hK0 : Keep (fun q => F q ∨ G q) w w := Keep.refl _ _
 have hzhK0 := Keep.size hK0
 refine enterV Try.func12 rfl [pt v, pt l, nt who, nt t, nt to, nt level, nt n] 96 rfl rfl rfl ?_
 refine V_pick [(0, pt v), (1, pt l), (2, nt who), (3, nt t), (4, nt to), (5, nt level), (6, nt n)] rfl ?_
 refine V_seq ?_
 refine V_region ?_
 refine OI_static 1 [(0, pt v), (1, pt l), (2, nt who), (3, nt t), (4, nt to), (5, nt level), (6, nt n)] (by kernel_rfl) ?_
 refine OI_end rfl ?_
 refine X_then ?_
 refine V_seq ?_
 refine V_seq ?_
 refine V_region ?_
 refine OI_static 8 [(0, pt v), (1, pt l), (2, nt who), (3, nt t), (4, nt to), (5, nt level), (6, nt n), (22, .bool false), (23, nt who)] (by kernel_rfl) ?_
 refine OI_call { callee := (Callee.value (Operand.func 24)), args := #[(Operand.tmp 23)], argTypes := #[3] } 24 #[nt who] (some 24) (by kernel_rfl) (by kernel_rfl) (by kernel_rfl) (isAcc_spec who _) ?_
 rintro _ w ⟨rfl, rfl⟩
 refine ⟨_, rfl, ?_⟩
 refine OI_static 12 [(0, pt v), (1, pt l), (2, nt who), (3, nt t), (4, nt to), (5, nt level), (6, nt n), (27, .bool (!(decide (0 ≤ who ∧ who ≤ 9))))] (by kernel_rfl) ?_
 by_cases hg6 : 0 ≤ who ∧ who ≤ 9
 ·
  refine OI_eq [(0, pt v), (1, pt l), (2, nt who), (3, nt t), (4, nt to), (5, nt level), (6, nt n), (27, .bool false)] (by first | simp [hg6] | rfl) ?_
  refine OI_static 13 [(0, pt v), (1, pt l), (2, nt who), (3, nt t), (4, nt to), (5, nt level), (6, nt n), (27, .bool false), (28, nt to)] (by kernel_rfl) ?_
  refine OI_call { callee := (Callee.value (Operand.func 24)), args := #[(Operand.tmp 28)], argTypes := #[3] } 24 #[nt to] (some 29) (by kernel_rfl) (by kernel_rfl) (by kernel_rfl) (isAcc_spec to _) ?_
  rintro _ w ⟨rfl, rfl⟩
  refine ⟨_, rfl, ?_⟩
  refine OI_static 17 [(0, pt v), (1, pt l), (2, nt who), (3, nt t), (4, nt to), (5, nt level), (6, nt n), (32, .bool (!(decide (0 ≤ to ∧ to ≤ 9))))] (by kernel_rfl) ?_
  by_cases hg12 : 0 ≤ to ∧ to ≤ 9
  ·
   refine OI_eq [(0, pt v), (1, pt l), (2, nt who), (3, nt t), (4, nt to), (5, nt level), (6, nt n), (32, .bool false)] (by first | simp [hg12] | rfl) ?_
   refine OI_static 18 [(0, pt v), (1, pt l), (2, nt who), (3, nt t), (4, nt to), (5, nt level), (6, nt n), (32, .bool false), (33, nt t)] (by kernel_rfl) ?_
   refine OI_call { callee := (Callee.value (Operand.func 22)), args := #[(Operand.tmp 33)], argTypes := #[3] } 22 #[nt t] (some 34) (by kernel_rfl) (by kernel_rfl) (by kernel_rfl) (isTrk_spec t _) ?_
   rintro _ w ⟨rfl, rfl⟩
   refine ⟨_, rfl, ?_⟩
   refine OI_static 22 [(0, pt v), (1, pt l), (2, nt who), (3, nt t), (4, nt to), (5, nt level), (6, nt n), (37, .bool (!(decide (0 ≤ t ∧ t ≤ 3))))] (by kernel_rfl) ?_
   by_cases hg18 : 0 ≤ t ∧ t ≤ 3
   ·
    refine OI_eq [(0, pt v), (1, pt l), (2, nt who), (3, nt t), (4, nt to), (5, nt level), (6, nt n), (37, .bool false)] (by first | simp [hg18] | rfl) ?_
    refine OI_static 23 [(0, pt v), (1, pt l), (2, nt who), (3, nt t), (4, nt to), (5, nt level), (6, nt n), (37, .bool false), (38, nt level)] (by kernel_rfl) ?_
    refine OI_call { callee := (Callee.value (Operand.func 21)), args := #[(Operand.tmp 38), (Operand.const (Value.int IntKind.i64 0)), (Operand.const (Value.int IntKind.i64 6))], argTypes := #[3, 3, 3] } 21 #[nt level, nt 0, nt 6] (some 39) (by kernel_rfl) (by kernel_rfl) (by kernel_rfl) (vIn_spec level 0 6 _) ?_
    rintro _ w ⟨rfl, rfl⟩
    refine ⟨_, rfl, ?_⟩
    refine OI_static 27 [(0, pt v), (1, pt l), (2, nt who), (3, nt t), (4, nt to), (5, nt level), (6, nt n), (42, .bool (!(decide ((0 : Int) ≤ level ∧ level ≤ 6))))] (by kernel_rfl) ?_
    by_cases hg24 : (0 : Int) ≤ level ∧ level ≤ 6
    ·
     refine OI_eq [(0, pt v), (1, pt l), (2, nt who), (3, nt t), (4, nt to), (5, nt level), (6, nt n), (42, .bool false)] (by first | simp [hg24] | rfl) ?_
     refine OI_static 28 [(0, pt v), (1, pt l), (2, nt who), (3, nt t), (4, nt to), (5, nt level), (6, nt n), (42, .bool false), (43, nt n)] (by kernel_rfl) ?_
     refine OI_call { callee := (Callee.value (Operand.func 21)), args := #[(Operand.tmp 43), (Operand.const (Value.int IntKind.i64 0)), (Operand.const (Value.int IntKind.i64 1073741824))], argTypes := #[3, 3, 3] } 21 #[nt n, nt 0, nt 1073741824] (some 44) (by kernel_rfl) (by kernel_rfl) (by kernel_rfl) (vIn_spec n 0 1073741824 _) ?_
     rintro _ w ⟨rfl, rfl⟩
     refine ⟨_, rfl, ?_⟩
     refine OI_static 32 [(0, pt v), (1, pt l), (2, nt who), (3, nt t), (4, nt to), (5, nt level), (6, nt n), (47, .bool (!(decide ((0 : Int) ≤ n ∧ n ≤ 1073741824))))] (by kernel_rfl) ?_
     by_cases hg30 : (0 : Int) ≤ n ∧ n ≤ 1073741824
     ·
      refine OI_eq [(0, pt v), (1, pt l), (2, nt who), (3, nt t), (4, nt to), (5, nt level), (6, nt n), (47, .bool false)] (by first | simp [hg30] | rfl) ?_
      refine OI_static 36 [(0, pt v), (1, pt l), (2, nt who), (3, nt t), (4, nt to), (5, nt level), (6, nt n), (51, .bool (decide (who = to)))] (by kernel_rfl) ?_
      refine OI_end rfl ?_
      refine X_then ?_
      refine V_if (who = to) (by kernel_rfl) (fun hc31 => ?_) (fun hc31 => ?_)
      ·
       refine V_seq ?_
       refine V_region ?_
       refine OI_static 1 [(14, nt 1)] (by kernel_rfl) ?_
       refine OI_end rfl ?_
       refine X_then ?_
       refine V_ret ?_
       refine X_ret_then ?_
       have hE32 : delE xs s who t to level n = 1 := by unfold delE; rw [if_pos (.inr (.inr (.inr (.inr (.inr ((fun h9 => h9 hc31)))))))]
       exact X_return (nt 1) rfl ⟨by rw [hE32], ⟨F, G, ⟨_, by rw [show delS xs s who t to level n = s from by unfold delS; rw [hE32, if_neg (by decide)]]; exact h⟩, by rw [show delC2 xs cs s who t to level n = cs from by unfold delC2; rw [hE32, if_neg (by decide)]]; exact hl, hFr, hGr, hdis⟩, hK0⟩
      ·
       refine V_skip ?_
       refine X_then ?_
       refine V_seq ?_
       refine V_region ?_
       refine OI_static 3 [(0, pt v), (1, pt l), (2, nt who), (3, nt t), (4, nt to), (5, nt level), (6, nt n), (52, pt v), (53, nt who), (54, nt t)] (by kernel_rfl) ?_
       rcases hd33 : (s.rc who t).d with _ | d34
       ·
        refine OI_call { callee := (Callee.value (Operand.func 26)), args := #[(Operand.tmp 52), (Operand.tmp 53), (Operand.tmp 54)], argTypes := #[29, 3, 3] } 26 #[pt v, nt who, nt t] (some 55) (by kernel_rfl) (by kernel_rfl) (by kernel_rfl) (record_spec F v P s who t _ h (by omega) (by omega)) ?_
        rintro _ w49 ⟨q39, P40, rfl, hgc44, hpp45, hgv46, hmn47, hdl48, ⟨F41, ho42, hfr43⟩, hk50⟩
        refine ⟨_, rfl, ?_⟩
        have hsz51 := Keep.size hk50
        replace hl := Led.keep hl hk50 (fun q hq hs => hdis q hs hq)
        replace hK0 := Keep.fresh hK0 hk50 (fun i hi hs => by rcases hFr i hs with h | h; exact .inl h; (exfalso; omega))
        have own53 : ∀ q, F41 q → 0 ≤ q := fun q hq => by rcases hfr43 q hq with h | h; (have h1 := hFo q h; have h2 := hFlt q h; omega); omega
        have lt52 := Vot.lt ho42
        have rel54 : ∀ q, F41 q → F q ∨ w.heap.size ≤ q := fun q hq => by rcases hfr43 q hq with h | h; exact hFr q h; exact .inr (by omega)
        have dis55 : ∀ q, F41 q → ¬ G q := fun q h1 h2 => by rcases hfr43 q h1 with h | h; exact hdis q h h2; (have h4 := hGlt q h2; omega)
        have hgq39lt := lt52 _ (Vot.at_ ho42)
        obtain ⟨hF57, hm56⟩ := Vot.recN ho42 hgc44 hd33
        have hq39lt := hm56.lt
        have hloq39 := lt52 _ hF57
        have hoq39 := own53 _ hF57
        refine OI_static 5 [(0, pt v), (1, pt l), (2, nt who), (3, nt t), (4, nt to), (5, nt level), (6, nt n), (15, pt q39)] (by kernel_rfl) ?_
        refine OI_end rfl ?_
        refine X_then ?_
        refine V_seq ?_
        refine V_block ?_
        refine V_seq ?_
        refine V_region ?_
        refine OI_static 3 [(0, pt v), (1, pt l), (2, nt who), (3, nt t), (4, nt to), (5, nt level), (6, nt n), (15, pt q39), (59, pt q39)] (by kernel_rfl) ?_
        refine OI_cell 72 (.tmp 59) 0 (.pointer none) (some 60) (by kernel_rfl) (by kernel_rfl) hm56 (m := 1) (by kernel_rfl) rfl ?_
        refine OI_static 6 [(0, pt v), (1, pt l), (2, nt who), (3, nt t), (4, nt to), (5, nt level), (6, nt n), (15, pt q39), (56, .bool false)] (by kernel_rfl) ?_
        refine OI_end rfl ?_
        refine X_then ?_
        refine V_false rfl ?_
        refine V_seq ?_
        refine V_region ?_
        refine OI_static 3 [(0, pt v), (1, pt l), (2, nt who), (3, nt t), (4, nt to), (5, nt level), (6, nt n), (15, pt q39), (63, pt v), (64, nt who), (65, nt t)] (by kernel_rfl) ?_
        refine OI_call { callee := (Callee.value (Operand.func 30)), args := #[(Operand.tmp 63), (Operand.tmp 64), (Operand.tmp 65)], argTypes := #[29, 3, 3] } 30 #[pt v, nt who, nt t] (some 66) (by kernel_rfl) (by kernel_rfl) (by kernel_rfl) (count_spec F41 v P40 s who t _ ho42) ?_
        rintro _ w60 ⟨rfl, hk61⟩
        refine ⟨_, rfl, ?_⟩
        have hsz62 := Keep.size hk61
        replace hm56 := hm56.keep hk61 (fun f => f)
        replace hl := Led.keep hl hk61 (fun _ _ f => f)
        replace hK0 := Keep.tr hK0 (Keep.ofNone hk61)
        replace ho42 := Vot.keep ho42 hk61 (fun _ _ f => f)
        refine OI_static 6 [(0, pt v), (1, pt l), (2, nt who), (3, nt t), (4, nt to), (5, nt level), (6, nt n), (15, pt q39), (62, .bool (decide ((((vrow s who t).length : Nat) : Int) > 0)))] (by kernel_rfl) ?_
        refine OI_end rfl ?_
        refine X_then ?_
        refine V_if ((((vrow s who t).length : Nat) : Int) > 0) (by kernel_rfl) (fun hc63 => ?_) (fun hc63 => ?_)
        ·
         refine V_seq ?_
         refine V_region ?_
         refine OI_static 1 [(14, nt 9)] (by kernel_rfl) ?_
         refine OI_end rfl ?_
         refine X_then ?_
         refine V_ret ?_
         refine X_ret_block ?_
         refine X_ret_then ?_
         have hE64 : delE xs s who t to level n = 9 := by unfold delE; rw [if_neg (by rintro (h9 | h9 | h9 | h9 | h9 | h9); exact h9 hg6; exact h9 hg12; exact h9 hg18; exact h9 hg24; exact h9 hg30; exact h9 hc31)]; rw [if_neg (by rw [hd33]; decide)]; rw [if_pos hc63]
         exact X_return (nt 9) rfl ⟨by rw [hE64], ⟨F41, G, ⟨_, by rw [show delS xs s who t to level n = s from by unfold delS; rw [hE64, if_neg (by decide)]]; exact ho42⟩, by rw [show delC2 xs cs s who t to level n = cs from by unfold delC2; rw [hE64, if_neg (by decide)]]; exact hl, rel54, hGr, dis55⟩, hK0⟩
        ·
         refine V_seq ?_
         refine V_region ?_
         refine OI_static 3 [(0, pt v), (1, pt l), (2, nt who), (3, nt t), (4, nt to), (5, nt level), (6, nt n), (15, pt q39), (69, nt n), (70, pt l), (71, nt who)] (by kernel_rfl) ?_
         refine OI_call { callee := (Callee.value (Operand.func 29)), args := #[(Operand.tmp 70), (Operand.tmp 71)], argTypes := #[28, 3] } 29 #[pt l, nt who] (some 72) (by kernel_rfl) (by kernel_rfl) (by kernel_rfl) (free_spec G l xs cs who _ hl) ?_
         rintro _ w65 ⟨rfl, hk66⟩
         refine ⟨_, rfl, ?_⟩
         have hsz67 := Keep.size hk66
         replace hm56 := hm56.keep hk66 (fun f => f)
         replace hl := Led.keep hl hk66 (fun _ _ f => f)
         replace hK0 := Keep.tr hK0 (Keep.ofNone hk66)
         replace ho42 := Vot.keep ho42 hk66 (fun _ _ f => f)
         refine OI_static 6 [(0, pt v), (1, pt l), (2, nt who), (3, nt t), (4, nt to), (5, nt level), (6, nt n), (15, pt q39), (68, .bool (decide (n > (acct xs who).free)))] (by kernel_rfl) ?_
         refine OI_end rfl ?_
         refine X_then ?_
         refine V_if (n > (acct xs who).free) (by kernel_rfl) (fun hc68 => ?_) (fun hc68 => ?_)
         ·
          refine V_seq ?_
          refine V_region ?_
          refine OI_static 1 [(14, nt 6)] (by kernel_rfl) ?_
          refine OI_end rfl ?_
          refine X_then ?_
          refine V_ret ?_
          refine X_ret_block ?_
          refine X_ret_then ?_
          have hE69 : delE xs s who t to level n = 6 := by unfold delE; rw [if_neg (by rintro (h9 | h9 | h9 | h9 | h9 | h9); exact h9 hg6; exact h9 hg12; exact h9 hg18; exact h9 hg24; exact h9 hg30; exact h9 hc31)]; rw [if_neg (by rw [hd33]; decide)]; rw [if_neg hc63]; rw [if_pos hc68]
          exact X_return (nt 6) rfl ⟨by rw [hE69], ⟨F41, G, ⟨_, by rw [show delS xs s who t to level n = s from by unfold delS; rw [hE69, if_neg (by decide)]]; exact ho42⟩, by rw [show delC2 xs cs s who t to level n = cs from by unfold delC2; rw [hE69, if_neg (by decide)]]; exact hl, rel54, hGr, dis55⟩, hK0⟩
         ·
          refine V_skip ?_
          refine X_block ?_
          refine X_then ?_
          refine V_seq ?_
          refine V_region ?_
          refine OI_static 5 [(0, pt v), (1, pt l), (2, nt who), (3, nt t), (4, nt to), (5, nt level), (6, nt n), (74, pt q39), (78, .agg #[nt to, nt level, nt n])] (by kernel_rfl) ?_
          refine OI_box 89 (.tmp 78) (.agg #[nt to, nt level, nt n]) [nt to, nt level, nt n] (some 79) (by kernel_rfl) (by kernel_rfl) (by kernel_rfl) ?_
          intro b70 w70 e70 hb70 k70 z70
          have hsz71 := Keep.size k70
          replace hm56 := hm56.keep k70 (fun f => f)
          replace hl := Led.keep hl k70 (fun _ _ f => f)
          replace hK0 := Keep.tr hK0 (Keep.ofNone k70)
          replace ho42 := Vot.keep ho42 k70 (fun _ _ f => f)
          have hb70lt := hb70.lt
          refine OI_static 8 [(0, pt v), (1, pt l), (2, nt who), (3, nt t), (4, nt to), (5, nt level), (6, nt n), (79, pt b70), (81, pt q39)] (by kernel_rfl) ?_
          have hF076 : ¬ F41 b70 := fun hh => by have h9 := lt52 _ hh; omega
          refine OI_set (m := 1) (kd := false) 72 (.tmp 81) (.tmp 79) 0 (pt b70) [pt b70] none (by kernel_rfl) (by kernel_rfl) (by kernel_rfl) hm56 (by kernel_rfl) (by kernel_rfl) (by kernel_rfl) (Nat.le_of_ble_eq_true (by kernel_rfl)) (by simp [Value.oneCell']) ?_
          intro w72 hn75 hk73 hz74
          replace hn75 : Blk w72 q39 [pt b70, nt (((s.rc who t)).got.v), nt (((s.rc who t)).got.c), nt (((s.rc who t)).till), nt (((s.rc who t)).n)] 76 := hn75
          have hsz77 := Keep.size hk73
          replace hl := Led.keep hl hk73 (fun q hq hs => (fun q h1 h2 => dis55 q h2 h1) q hq (by rw [show q = q39 from hs]; exact hF57))
          replace hK0 := Keep.fresh hK0 hk73 (fun i hi hs => by have hs : F41 i := (by rw [show i = q39 from hs]; exact hF57); rcases rel54 i hs with h | h; exact .inl h; (exfalso; omega))
          obtain ⟨F79, ho78, hfd80⟩ := Vot.setDelE (a := who) (t := t) (r' := { (s.rc who t) with d := some (DelS.mk to level n) }) (d := (DelS.mk to level n)) ho42 hgc44 hm56 hb70 hF076 hk73 (show Blk _ _ (RecS.cells (some ⟨b70, 0, none⟩) { (s.rc who t) with d := some (DelS.mk to level n) }) _ from hn75) rfl (by intro d hd; simp only [Option.some.injEq] at hd; subst hd; simp only []; omega)
          have hfr81 : ∀ q, F79 q → F41 q ∨ w65.heap.size ≤ q := fun q hq => (hfd80 q hq).imp id (fun h => by omega)
          have own83 : ∀ q, F79 q → 0 ≤ q := fun q hq => by rcases hfr81 q hq with h | h; (have h1 := own53 q h; have h2 := lt52 q h; omega); omega
          have lt82 := Vot.lt ho78
          have rel84 : ∀ q, F79 q → F q ∨ w.heap.size ≤ q := fun q hq => by rcases hfr81 q hq with h | h; exact rel54 q h; exact .inr (by omega)
          have dis85 : ∀ q, F79 q → ¬ G q := fun q h1 h2 => by rcases hfr81 q h1 with h | h; exact dis55 q h h2; (have h4 := hGlt q h2; omega)
          obtain ⟨bd88, hF87, hF89, hm86, hm90⟩ := Vot.recD ho78 hgc44 (by rw [show (s.setR who t { (s.rc who t) with d := some (DelS.mk to level n) }).rc who t = { (s.rc who t) with d := some (DelS.mk to level n) } from (updR_self _ _ _ _)]; first | done | exact rfl)
          have hbd88lt := hm90.lt
          have hlobd88 := lt82 _ hF89
          have hobd88 := own83 _ hF89
          rw [show (s.setR who t { (s.rc who t) with d := some (DelS.mk to level n) }).rc who t = { (s.rc who t) with d := some (DelS.mk to level n) } from (updR_self _ _ _ _)] at hm86
          have hq39lt := hm86.lt
          have hloq39 := lt82 _ hF87
          have hoq39 := own83 _ hF87
          have hnebd88q39 : bd88 ≠ q39 := Blk.ne hm90 hm86 (by decide)
          refine OI_end rfl ?_
          refine X_then ?_
          refine V_seq ?_
          refine V_region ?_
          refine OI_static 5 [(1, pt l), (2, nt who), (3, nt t), (6, nt n), (82, pt v), (83, nt to), (84, nt t), (85, nt n), (86, nt level)] (by kernel_rfl) ?_
          refine OI_call { callee := (Callee.value (Operand.func 38)), args := #[(Operand.tmp 85), (Operand.tmp 86)], argTypes := #[3, 3] } 38 #[nt n, nt level] (some 87) (by kernel_rfl) (by kernel_rfl) (by kernel_rfl) (cvVotes_spec n level _) ?_
          rintro _ w72 ⟨rfl, rfl⟩
          refine ⟨_, rfl, ?_⟩
          refine OI_static 8 [(1, pt l), (2, nt who), (3, nt t), (6, nt n), (82, pt v), (83, nt to), (84, nt t), (89, .agg #[nt (cvVotes n level), nt n])] (by kernel_rfl) ?_
          refine OI_call { callee := (Callee.value (Operand.func 37)), args := #[(Operand.tmp 82), (Operand.tmp 83), (Operand.tmp 84), (Operand.tmp 89)], argTypes := #[29, 3, 3, 74] } 37 #[pt v, nt to, nt t, .agg #[nt (cvVotes n level), nt n]] (some 90) (by kernel_rfl) (by kernel_rfl) (by kernel_rfl) (gets_spec F79 v P40 (s.setR who t { (s.rc who t) with d := some (DelS.mk to level n) }) to t (Wgt.mk (cvVotes n level) n) _ ho78 (by omega) (by omega)) ?_
          rintro _ w98 ⟨rfl, P100, hpp104, hgv105, hmn106, hdl107, ⟨F101, ho102, hfr103⟩, hk99⟩
          refine ⟨_, rfl, ?_⟩
          have hsz108 := Keep.size hk99
          replace hl := Led.keep hl hk99 (fun q hq hs => dis85 q hs hq)
          replace hK0 := Keep.fresh hK0 hk99 (fun i hi hs => by rcases rel84 i hs with h | h; exact .inl h; (exfalso; omega))
          have own110 : ∀ q, F101 q → 0 ≤ q := fun q hq => by rcases hfr103 q hq with h | h; (have h1 := own83 q h; have h2 := lt82 q h; omega); omega
          have lt109 := Vot.lt ho102
          have rel111 : ∀ q, F101 q → F q ∨ w.heap.size ≤ q := fun q hq => by rcases hfr103 q hq with h | h; exact rel84 q h; exact .inr (by omega)
          have dis112 : ∀ q, F101 q → ¬ G q := fun q h1 h2 => by rcases hfr103 q h1 with h | h; exact dis85 q h h2; (have h4 := hGlt q h2; omega)
          have hqq39w98 := hmn106 _ _ _ hgc44
          refine OI_end rfl ?_
          refine X_then ?_
          refine V_seq ?_
          refine V_region ?_
          refine OI_static 4 [(91, pt l), (92, nt who), (93, nt t), (94, nt n)] (by kernel_rfl) ?_
          refine OI_call { callee := (Callee.value (Operand.func 35)), args := #[(Operand.tmp 91), (Operand.tmp 92), (Operand.tmp 93), (Operand.tmp 94)], argTypes := #[28, 3, 3, 3] } 35 #[pt l, nt who, nt t, nt n] (some 95) (by kernel_rfl) (by kernel_rfl) (by kernel_rfl) (raise_spec G l xs cs who t n _ hl hmax) ?_
          rintro _ w115 ⟨rfl, ⟨F117, ho118, hfr119⟩, hk116⟩
          refine ⟨_, rfl, ?_⟩
          have hsz120 := Keep.size hk116
          replace hK0 := Keep.fresh hK0 hk116 (fun i hi hs => by rcases hGr i hs with h | h; exact .inr h; (exfalso; omega))
          replace ho102 := Vot.keep ho102 hk116 (fun q hq hs => (fun q h1 h2 => dis112 q h2 h1) q hs hq)
          have own122 : ∀ q, F117 q → 0 ≤ q := fun q hq => by rcases hfr119 q hq with h | h; (have h1 := hGo q h; have h2 := hGlt q h; omega); omega
          have lt121 := Led.lt ho118
          have rel123 : ∀ q, F117 q → G q ∨ w.heap.size ≤ q := fun q hq => by rcases hfr119 q hq with h | h; exact hGr q h; exact .inr (by omega)
          have dis124 : ∀ q, F117 q → ¬ F101 q := fun q h1 h2 => by rcases hfr119 q h1 with h | h; exact (fun q h1 h2 => dis112 q h2 h1) q h h2; (have h4 := lt109 q h2; omega)
          refine OI_end rfl ?_
          refine X_then ?_
          refine V_seq ?_
          refine V_region ?_
          refine OI_static 1 [(14, nt 0)] (by kernel_rfl) ?_
          refine OI_end rfl ?_
          refine X_then ?_
          refine V_ret ?_
          have hE125 : delE xs s who t to level n = 0 := by unfold delE; rw [if_neg (by rintro (h9 | h9 | h9 | h9 | h9 | h9); exact h9 hg6; exact h9 hg12; exact h9 hg18; exact h9 hg24; exact h9 hg30; exact h9 hc31)]; rw [if_neg (by rw [hd33]; decide)]; rw [if_neg hc63]; rw [if_neg hc68]
          exact X_return (nt 0) rfl ⟨by rw [hE125], ⟨F101, F117, ⟨_, by rw [show delS xs s who t to level n = (getsS (s.setR who t { (s.rc who t) with d := some (DelS.mk to level n) }) to t (Wgt.mk (cvVotes n level) n)) from by unfold delS; rw [hE125, if_pos rfl]]; exact ho102⟩, by rw [show delC2 xs cs s who t to level n = raiseC cs who t n from by unfold delC2; rw [hE125, if_pos rfl]]; exact ho118, rel111, rel123, (fun q h1 h2 => dis124 q h2 h1)⟩, hK0⟩
       ·
        refine OI_call { callee := (Callee.value (Operand.func 26)), args := #[(Operand.tmp 52), (Operand.tmp 53), (Operand.tmp 54)], argTypes := #[29, 3, 3] } 26 #[pt v, nt who, nt t] (some 55) (by kernel_rfl) (by kernel_rfl) (by kernel_rfl) (record_spec F v P s who t _ h (by omega) (by omega)) ?_
        rintro _ w140 ⟨q130, P131, rfl, hgc135, hpp136, hgv137, hmn138, hdl139, ⟨F132, ho133, hfr134⟩, hk141⟩
        refine ⟨_, rfl, ?_⟩
        have hsz142 := Keep.size hk141
        replace hl := Led.keep hl hk141 (fun q hq hs => hdis q hs hq)
        replace hK0 := Keep.fresh hK0 hk141 (fun i hi hs => by rcases hFr i hs with h | h; exact .inl h; (exfalso; omega))
        have own144 : ∀ q, F132 q → 0 ≤ q := fun q hq => by rcases hfr134 q hq with h | h; (have h1 := hFo q h; have h2 := hFlt q h; omega); omega
        have lt143 := Vot.lt ho133
        have rel145 : ∀ q, F132 q → F q ∨ w.heap.size ≤ q := fun q hq => by rcases hfr134 q hq with h | h; exact hFr q h; exact .inr (by omega)
        have dis146 : ∀ q, F132 q → ¬ G q := fun q h1 h2 => by rcases hfr134 q h1 with h | h; exact hdis q h h2; (have h4 := hGlt q h2; omega)
        have hgq130lt := lt143 _ (Vot.at_ ho133)
        obtain ⟨bd149, hF148, hF150, hm147, hm151⟩ := Vot.recD ho133 hgc135 hd33
        have hbd149lt := hm151.lt
        have hlobd149 := lt143 _ hF150
        have hobd149 := own144 _ hF150
        have hq130lt := hm147.lt
        have hloq130 := lt143 _ hF148
        have hoq130 := own144 _ hF148
        have hnebd149q130 : bd149 ≠ q130 := Blk.ne hm151 hm147 (by decide)
        refine OI_static 5 [(0, pt v), (1, pt l), (2, nt who), (3, nt t), (4, nt to), (5, nt level), (6, nt n), (15, pt q130)] (by kernel_rfl) ?_
        refine OI_end rfl ?_
        refine X_then ?_
        refine V_seq ?_
        refine V_block ?_
        refine V_seq ?_
        refine V_region ?_
        refine OI_static 3 [(0, pt v), (1, pt l), (2, nt who), (3, nt t), (4, nt to), (5, nt level), (6, nt n), (15, pt q130), (59, pt q130)] (by kernel_rfl) ?_
        refine OI_cell 72 (.tmp 59) 0 (pt bd149) (some 60) (by kernel_rfl) (by kernel_rfl) hm147 (m := 1) (by kernel_rfl) rfl ?_
        refine OI_static 6 [(0, pt v), (1, pt l), (2, nt who), (3, nt t), (4, nt to), (5, nt level), (6, nt n), (15, pt q130), (56, .bool true)] (by kernel_rfl) ?_
        refine OI_end rfl ?_
        refine X_then ?_
        refine V_true rfl ?_
        refine V_seq ?_
        refine V_region ?_
        refine OI_static 1 [(14, nt 5)] (by kernel_rfl) ?_
        refine OI_end rfl ?_
        refine X_then ?_
        refine V_ret ?_
        refine X_ret_block ?_
        refine X_ret_then ?_
        have hE152 : delE xs s who t to level n = 5 := by unfold delE; rw [if_neg (by rintro (h9 | h9 | h9 | h9 | h9 | h9); exact h9 hg6; exact h9 hg12; exact h9 hg18; exact h9 hg24; exact h9 hg30; exact h9 hc31)]; rw [if_pos (by rw [hd33]; rfl)]
        exact X_return (nt 5) rfl ⟨by rw [hE152], ⟨F132, G, ⟨_, by rw [show delS xs s who t to level n = s from by unfold delS; rw [hE152, if_neg (by decide)]]; exact ho133⟩, by rw [show delC2 xs cs s who t to level n = cs from by unfold delC2; rw [hE152, if_neg (by decide)]]; exact hl, rel145, hGr, dis146⟩, hK0⟩
     ·
      refine OI_eq [(0, pt v), (1, pt l), (2, nt who), (3, nt t), (4, nt to), (5, nt level), (6, nt n), (47, .bool true)] (by first | simp [hg30] | rfl) ?_
      refine OI_static 36 [(0, pt v), (1, pt l), (2, nt who), (3, nt t), (4, nt to), (5, nt level), (6, nt n), (51, .bool true)] (by kernel_rfl) ?_
      refine OI_end rfl ?_
      refine X_then ?_
      refine V_true rfl ?_
      refine V_seq ?_
      refine V_region ?_
      refine OI_static 1 [(14, nt 1)] (by kernel_rfl) ?_
      refine OI_end rfl ?_
      refine X_then ?_
      refine V_ret ?_
      refine X_ret_then ?_
      have hE153 : delE xs s who t to level n = 1 := by unfold delE; rw [if_pos (.inr (.inr (.inr (.inr (.inl hg30)))))]
      exact X_return (nt 1) rfl ⟨by rw [hE153], ⟨F, G, ⟨_, by rw [show delS xs s who t to level n = s from by unfold delS; rw [hE153, if_neg (by decide)]]; exact h⟩, by rw [show delC2 xs cs s who t to level n = cs from by unfold delC2; rw [hE153, if_neg (by decide)]]; exact hl, hFr, hGr, hdis⟩, hK0⟩
    ·
     refine OI_eq [(0, pt v), (1, pt l), (2, nt who), (3, nt t), (4, nt to), (5, nt level), (6, nt n), (42, .bool true)] (by first | simp [hg24] | rfl) ?_
     refine OI_static 36 [(0, pt v), (1, pt l), (2, nt who), (3, nt t), (4, nt to), (5, nt level), (6, nt n), (51, .bool true)] (by kernel_rfl) ?_
     refine OI_end rfl ?_
     refine X_then ?_
     refine V_true rfl ?_
     refine V_seq ?_
     refine V_region ?_
     refine OI_static 1 [(14, nt 1)] (by kernel_rfl) ?_
     refine OI_end rfl ?_
     refine X_then ?_
     refine V_ret ?_
     refine X_ret_then ?_
     have hE154 : delE xs s who t to level n = 1 := by unfold delE; rw [if_pos (.inr (.inr (.inr (.inl hg24))))]
     exact X_return (nt 1) rfl ⟨by rw [hE154], ⟨F, G, ⟨_, by rw [show delS xs s who t to level n = s from by unfold delS; rw [hE154, if_neg (by decide)]]; exact h⟩, by rw [show delC2 xs cs s who t to level n = cs from by unfold delC2; rw [hE154, if_neg (by decide)]]; exact hl, hFr, hGr, hdis⟩, hK0⟩
   ·
    refine OI_eq [(0, pt v), (1, pt l), (2, nt who), (3, nt t), (4, nt to), (5, nt level), (6, nt n), (37, .bool true)] (by first | simp [hg18] | rfl) ?_
    refine OI_static 36 [(0, pt v), (1, pt l), (2, nt who), (3, nt t), (4, nt to), (5, nt level), (6, nt n), (51, .bool true)] (by kernel_rfl) ?_
    refine OI_end rfl ?_
    refine X_then ?_
    refine V_true rfl ?_
    refine V_seq ?_
    refine V_region ?_
    refine OI_static 1 [(14, nt 1)] (by kernel_rfl) ?_
    refine OI_end rfl ?_
    refine X_then ?_
    refine V_ret ?_
    refine X_ret_then ?_
    have hE155 : delE xs s who t to level n = 1 := by unfold delE; rw [if_pos (.inr (.inr (.inl hg18)))]
    exact X_return (nt 1) rfl ⟨by rw [hE155], ⟨F, G, ⟨_, by rw [show delS xs s who t to level n = s from by unfold delS; rw [hE155, if_neg (by decide)]]; exact h⟩, by rw [show delC2 xs cs s who t to level n = cs from by unfold delC2; rw [hE155, if_neg (by decide)]]; exact hl, hFr, hGr, hdis⟩, hK0⟩
  ·
   refine OI_eq [(0, pt v), (1, pt l), (2, nt who), (3, nt t), (4, nt to), (5, nt level), (6, nt n), (32, .bool true)] (by first | simp [hg12] | rfl) ?_
   refine OI_static 36 [(0, pt v), (1, pt l), (2, nt who), (3, nt t), (4, nt to), (5, nt level), (6, nt n), (51, .bool true)] (by kernel_rfl) ?_
   refine OI_end rfl ?_
   refine X_then ?_
   refine V_true rfl ?_
   refine V_seq ?_
   refine V_region ?_
   refine OI_static 1 [(14, nt 1)] (by kernel_rfl) ?_
   refine OI_end rfl ?_
   refine X_then ?_
   refine V_ret ?_
   refine X_ret_then ?_
   have hE156 : delE xs s who t to level n = 1 := by unfold delE; rw [if_pos (.inr (.inl hg12))]
   exact X_return (nt 1) rfl ⟨by rw [hE156], ⟨F, G, ⟨_, by rw [show delS xs s who t to level n = s from by unfold delS; rw [hE156, if_neg (by decide)]]; exact h⟩, by rw [show delC2 xs cs s who t to level n = cs from by unfold delC2; rw [hE156, if_neg (by decide)]]; exact hl, hFr, hGr, hdis⟩, hK0⟩
 ·
  refine OI_eq [(0, pt v), (1, pt l), (2, nt who), (3, nt t), (4, nt to), (5, nt level), (6, nt n), (27, .bool true)] (by first | simp [hg6] | rfl) ?_
  refine OI_static 36 [(0, pt v), (1, pt l), (2, nt who), (3, nt t), (4, nt to), (5, nt level), (6, nt n), (51, .bool true)] (by kernel_rfl) ?_
  refine OI_end rfl ?_
  refine X_then ?_
  refine V_true rfl ?_
  refine V_seq ?_
  refine V_region ?_
  refine OI_static 1 [(14, nt 1)] (by kernel_rfl) ?_
  refine OI_end rfl ?_
  refine X_then ?_
  refine V_ret ?_
  refine X_ret_then ?_
  have hE157 : delE xs s who t to level n = 1 := by unfold delE; rw [if_pos (.inl hg6)]
  exact X_return (nt 1) rfl ⟨by rw [hE157], ⟨F, G, ⟨_, by rw [show delS xs s who t to level n = s from by unfold delS; rw [hE157, if_neg (by decide)]]; exact h⟩, by rw [show delC2 xs cs s who t to level n = cs from by unfold delC2; rw [hE157, if_neg (by decide)]]; exact hl, hFr, hGr, hdis⟩, hK0⟩
end Go.Al


namespace Go.Al
open Go Go.RowKit Go.Proofs
def VS.zero : VS := ⟨List.replicate 12 none, [], fun _ _ => RecS.zero⟩
theorem Vot.new {F1 F2 : Nat → Prop} {w : World} {v gv gr : Nat} (h1 : GV.Grd F1 w gv []) (h2 : GR.Grd F2 w gr []) (hb : Blk w v ((List.replicate 12 none).map Value.pointer ++ [.pointer (some ⟨gv, 0, none⟩), .pointer (some ⟨gr, 0, none⟩)]) 66) (d12 : ∀ q, F1 q → ¬ F2 q) (n1 : ∀ q, F1 q → q ≠ v) (n2 : ∀ q, F2 q → q ≠ v) :
    Vot (fun q => F1 q ∨ F2 q ∨ q = v) w v ⟨gv, gr, List.replicate 12 none, []⟩ VS.zero := by
  refine ⟨F1, F2, fun q => q = v, ⟨⟨rfl, (fun c hc => by cases hc), (fun a t d hd => by cases hd)⟩, h1, h2, rfl, fun q hq => by rw [hq]; exact hb.lt, d12, n1, n2, rfl, hb, fun i hi => ?_, ?_, fun c hc => (by cases hc), fun a t => .inl ⟨rfl, rfl⟩, ?_⟩, fun _ h => .inl h, fun _ h => .inr (.inl h), fun _ h => .inr (.inr h), ?_⟩
  · left
    show (List.replicate 12 none)[i]? = some none ∧ (List.replicate 12 none)[i]? = some none
    rw [List.getElem?_replicate, List.getElem?_replicate, if_pos hi, if_pos hi]; exact ⟨rfl, rfl⟩
  · intro i j b hi
    have hi' : (List.replicate 12 (none : Option Addr))[i]? = some (some ⟨b, 0, none⟩) := hi
    rw [List.getElem?_replicate] at hi'
    split at hi' <;> cases hi'
  · intro a t a' t' q hq; cases hq
  · rintro q (h | h | rfl)
    · exact h1.lt q h
    · exact h2.lt q h
    · exact hb.lt
theorem TrkOk.zero : TrkOk VS.zero := by
  intro i q h
  have h' : (List.replicate 12 (none : Option PollS))[i]? = some (some q) := h
  rw [List.getElem?_replicate] at h'
  split at h' <;> cases h'
theorem TrkOk.setP {s : VS} (h : TrkOk s) {i : Nat} {q : PollS} (hq : 0 ≤ q.track ∧ q.track < 4) : TrkOk (s.setP i q) := by
  intro j q' e
  have e' : (s.ps.set i (some q))[j]? = some (some q') := e
  rw [List.getElem?_set] at e'
  split at e'
  · split at e'
    · simp only [Option.some.injEq] at e'; rw [← e']; exact hq
    · cases e'
  · exact h j q' e'
theorem TrkOk.poll {s : VS} (h : TrkOk s) {ref : Int} {q : PollS} (e : pollAt s ref = some q) : 0 ≤ q.track ∧ q.track < 4 := by
  unfold pollAt at e
  split at e
  · cases hg : s.ps[ref.toNat]? with
    | none => rw [hg] at e; cases e
    | some x => rw [hg] at e; exact h _ _ (by rw [hg]; exact congrArg some e)
  · cases e
theorem TrkOk.cs {s : VS} (h : TrkOk s) (c : List GV.Ci) : TrkOk { s with cs := c } := h
theorem TrkOk.setR {s : VS} (h : TrkOk s) (a t : Int) (r : RecS) : TrkOk (s.setR a t r) := h
theorem TrkOk.retally {was now : Wgt} : ∀ (l : List (Int × Vt)) {s : VS}, TrkOk s → TrkOk (retally was now s l)
  | [], s, h => h
  | c :: l, s, h => by
    refine TrkOk.retally l (s := retally1 was now s c) ?_
    unfold retally1
    split
    · rename_i q hq
      split
      · exact h.setP (show 0 ≤ q.track ∧ q.track < 4 from h _ _ hq)
      · exact h
    · exact h
theorem TrkOk.gets {s : VS} (h : TrkOk s) (a t : Int) (wt : Wgt) : TrkOk (getsS s a t wt) := TrkOk.retally _ (h.setR a t _)
theorem TrkOk.openS {s : VS} (h : TrkOk s) (ref t : Int) : TrkOk (openS s ref t) := by
  unfold Al.openS
  split
  · rename_i he
    refine h.setP ?_
    show 0 ≤ t ∧ t < 4
    unfold openE at he
    split at he
    · cases he
    · omega
  · exact h
theorem TrkOk.voteS {s : VS} (h : TrkOk s) (xs : List Acc) (who ref : Int) (x : Vt) : TrkOk (voteS xs s who ref x) := by
  unfold Al.voteS
  split
  · split
    · exact h
    · rename_i q hq; exact h.setP (show 0 ≤ q.track ∧ q.track < 4 from h.poll hq)
  · exact h
theorem TrkOk.delS {s : VS} (h : TrkOk s) (xs : List Acc) (who t to level n : Int) : TrkOk (delS xs s who t to level n) := by
  unfold Al.delS
  split
  · exact (h.setR _ _ _).gets _ _ _
  · exact h
/-- The voting at v. -/
def VotT (F : Nat → Prop) (w : World) (v : Nat) (s : VS) : Prop := VotE F w v s ∧ TrkOk s
section
variable {F S : Nat → Prop} {w w' : World} {v N : Nat} {s : VS}
theorem VotT.lt (h : VotT F w v s) : ∀ q, F q → q < w.heap.size := h.1.lt
theorem VotT.at_ (h : VotT F w v s) : F v := h.1.at_
theorem VotT.keep (h : VotT F w v s) (k : Keep S w w') (hS : ∀ q, F q → ¬ S q) : VotT F w' v s := ⟨h.1.keep k hS, h.2⟩
theorem VotT.quiet (h : VotT F w v s) (k : Keep (lb N w) w w') : VotT F w' v s := ⟨h.1.quiet k, h.2⟩
theorem VotT.inv (h : VotT F w v s) : s.Inv := h.1.inv
end

set_option maxRecDepth 10000 in
theorem new_votT (w : World) : Calls Try.prog 19 #[] w fun e w' => ∃ v F, e = .returned (.pointer (some ⟨v, 0, none⟩)) ∧ VotT F w' v VS.zero ∧ Keep none_ w w' ∧ (∀ q, F q → w.heap.size ≤ q) := by
 have hK0 : Keep none_ w w := Keep.refl _ _
 have hzhK0 := Keep.size hK0
 refine enterV Try.func19 rfl [] 5 rfl rfl rfl ?_
 refine V_pick [] rfl ?_
 refine V_seq ?_
 refine V_region ?_
 refine OI_static 1 [] (by kernel_rfl) ?_
 refine OI_end rfl ?_
 refine X_then ?_
 refine V_seq ?_
 refine V_region ?_
 refine OI_call { callee := (Callee.value (Operand.func 45)), args := #[], argTypes := #[] } 45 #[] (some 1) (by kernel_rfl) (by kernel_rfl) (by kernel_rfl) (GV.new_grd _) ?_
 rintro _ w1 ⟨g3, F4, rfl, ho5, hk2, hge6⟩
 refine ⟨_, rfl, ?_⟩
 have hsz7 := Keep.size hk2
 replace hK0 := Keep.tr hK0 (Keep.ofNone hk2)
 have own8 : ∀ q, F4 q → w.heap.size ≤ q := fun q hq => by have h1 := hge6 q hq; omega
 have lt9 := GV.Grd.lt ho5
 have hg3lt : g3 < w1.heap.size := GV.Grd.lt ho5 _ (GV.Grd.at_ ho5)
 have hg3ge := hge6 _ (GV.Grd.at_ ho5)
 refine OI_call { callee := (Callee.value (Operand.func 46)), args := #[], argTypes := #[] } 46 #[] (some 2) (by kernel_rfl) (by kernel_rfl) (by kernel_rfl) (GR.new_grd _) ?_
 rintro _ w10 ⟨g12, F13, rfl, ho14, hk11, hge15⟩
 refine ⟨_, rfl, ?_⟩
 have hsz16 := Keep.size hk11
 replace hK0 := Keep.tr hK0 (Keep.ofNone hk11)
 replace ho5 := GV.Grd.keep ho5 hk11 (fun _ _ f => f)
 have own17 : ∀ q, F13 q → w1.heap.size ≤ q := fun q hq => by have h1 := hge15 q hq; omega
 have lt18 := GR.Grd.lt ho14
 have dis19 : ∀ q, F13 q → ¬ F4 q := fun q h1 h2 => by have h3 := hge15 q h1; have h4 := lt9 q h2; omega
 have hg12lt : g12 < w10.heap.size := GR.Grd.lt ho14 _ (GR.Grd.at_ ho14)
 have hg12ge := hge15 _ (GR.Grd.at_ ho14)
 refine OI_static 3 [(3, .agg #[.pointer none, .pointer none, .pointer none, .pointer none, .pointer none, .pointer none, .pointer none, .pointer none, .pointer none, .pointer none, .pointer none, .pointer none, pt g3, pt g12])] (by kernel_rfl) ?_
 refine OI_box 66 (.tmp 3) (.agg #[.pointer none, .pointer none, .pointer none, .pointer none, .pointer none, .pointer none, .pointer none, .pointer none, .pointer none, .pointer none, .pointer none, .pointer none, pt g3, pt g12]) [.pointer none, .pointer none, .pointer none, .pointer none, .pointer none, .pointer none, .pointer none, .pointer none, .pointer none, .pointer none, .pointer none, .pointer none, pt g3, pt g12] (some 4) (by kernel_rfl) (by kernel_rfl) (by kernel_rfl) ?_
 intro b20 w20 e20 hb20 k20 z20
 have hsz21 := Keep.size k20
 replace hK0 := Keep.tr hK0 (Keep.ofNone k20)
 replace ho5 := GV.Grd.keep ho5 k20 (fun _ _ f => f)
 replace ho14 := GR.Grd.keep ho14 k20 (fun _ _ f => f)
 have hb20lt := hb20.lt
 refine OI_static 5 [(0, pt b20)] (by kernel_rfl) ?_
 refine OI_end rfl ?_
 refine X_then ?_
 refine V_ret ?_
 exact X_return _ rfl ⟨b20, _, rfl, ⟨⟨_, Vot.new (gv := g3) (gr := g12) ho5 ho14 hb20 (fun q h1 h2 => dis19 q h2 h1) (fun q hq => by have h1 := lt9 q hq; omega) (fun q hq => by have h1 := lt18 q hq; omega)⟩, TrkOk.zero⟩, hK0, fun q hq => by rcases hq with h | h | h; (have h1 := own8 q h; omega); (have h1 := own17 q h; omega); omega⟩

theorem vote_spec (F G : Nat → Prop) (v l : Nat) (s : VS) (xs : List Acc) (cs : List Ci) (who ref : Int) (x : Vt) (w : World) (h : VotT F w v s) (hl : Led G w l xs cs) (hdis : ∀ q, F q → ¬ G q) (hmax : cs.length < 100000) : Calls Try.prog 9 #[.pointer (some ⟨v, 0, none⟩), .pointer (some ⟨l, 0, none⟩), .int .i64 who, .int .i64 ref, .agg x.cells.toArray] w fun e w' => e = .returned (.int .i64 (voteE xs s who ref x)) ∧ (∃ F' G', VotT F' w' v (voteS xs s who ref x) ∧ Led G' w' l xs (voteC xs cs s who ref x) ∧ (∀ q, F' q → F q ∨ w.heap.size ≤ q) ∧ (∀ q, G' q → G q ∨ w.heap.size ≤ q) ∧ (∀ q, F' q → ¬ G' q)) ∧ Keep (fun q => F q ∨ G q) w w' := by
  obtain ⟨⟨P, h⟩, ht⟩ := h
  refine (vote_at F G v l P s xs cs who ref x w h hl hdis ht hmax).mono ?_
  rintro e w' ⟨rfl, ⟨F', G', h1, h2, h3⟩, hk⟩
  exact ⟨rfl, ⟨F', G', ⟨h1, ht.voteS _ _ _ _⟩, h2, h3⟩, hk⟩

theorem delegate_spec (F G : Nat → Prop) (v l : Nat) (s : VS) (xs : List Acc) (cs : List Ci) (who t to level n : Int) (w : World) (h : VotT F w v s) (hl : Led G w l xs cs) (hdis : ∀ q, F q → ¬ G q) (hmax : cs.length < 100000) : Calls Try.prog 12 #[.pointer (some ⟨v, 0, none⟩), .pointer (some ⟨l, 0, none⟩), .int .i64 who, .int .i64 t, .int .i64 to, .int .i64 level, .int .i64 n] w fun e w' => e = .returned (.int .i64 (delE xs s who t to level n)) ∧ (∃ F' G', VotT F' w' v (delS xs s who t to level n) ∧ Led G' w' l xs (delC2 xs cs s who t to level n) ∧ (∀ q, F' q → F q ∨ w.heap.size ≤ q) ∧ (∀ q, G' q → G q ∨ w.heap.size ≤ q) ∧ (∀ q, F' q → ¬ G' q)) ∧ Keep (fun q => F q ∨ G q) w w' := by
  obtain ⟨⟨P, h⟩, ht⟩ := h
  refine (delegate_at F G v l P s xs cs who t to level n w h hl hdis hmax).mono ?_
  rintro e w' ⟨rfl, ⟨F', G', h1, h2, h3⟩, hk⟩
  exact ⟨rfl, ⟨F', G', ⟨h1, ht.delS _ _ _ _ _ _⟩, h2, h3⟩, hk⟩

theorem open_specT (F : Nat → Prop) (v : Nat) (s : VS) (ref t : Int) (w : World) (h : VotT F w v s) : Calls Try.prog 8 #[.pointer (some ⟨v, 0, none⟩), .int .i64 ref, .int .i64 t] w fun e w' => e = .returned (.int .i64 (openE s ref t)) ∧ (∃ F', VotT F' w' v (openS s ref t) ∧ (∀ q, F' q → F q ∨ w.heap.size ≤ q)) ∧ Keep F w w' := by
  obtain ⟨h, ht⟩ := h
  refine (open_spec F v s ref t w h).mono ?_
  rintro e w' ⟨rfl, ⟨F', h1, h3⟩, hk⟩
  exact ⟨rfl, ⟨F', ⟨h1, ht.openS _ _⟩, h3⟩, hk⟩
end Go.Al


namespace Go.Al
open Go Go.RowKit Go.Proofs
theorem new_ok (A : Option Addr) (cap : Nat) (fs : List Int) (w : World) (hA : ArgT w 1 intc A cap fs) (hn : fs.length ≤ 100000) (hok : okP fs) : Calls Try.prog 17 #[.slice A fs.length cap] w fun e w' => ∃ l F, e = .returned (.tuple #[.pointer (some ⟨l, 0, none⟩), .int .i64 0]) ∧ Led F w' l (newX fs 10) [] ∧ Keep none_ w w' ∧ (∀ q, F q → w.heap.size ≤ q) :=
  (new_spec6 A cap fs w hA hn).mono (by
    rintro e w' (⟨_, h⟩ | ⟨h, _⟩)
    · exact h
    · exact absurd hok h)

end Go.Al


namespace Go.Al
open Go Go.RowKit Go.Proofs
def castc (c : Int × Vt) : List Value := .int .i64 c.1 :: c.2.cells
theorem castc_len (c : Int × Vt) : (castc c).length = 7 := rfl
theorem castc_one (c : Int × Vt) : ∀ u ∈ castc c, u.oneCell' = true := one_all' rfl

set_option maxRecDepth 10000 in
theorem casts_at (F : Nat → Prop) (v : Nat) (P : VP) (s : VS) (a t : Int) (w : World) (h : Vot F w v P s) (hmx : (vrow s a t).length ≤ 100) : Calls Try.prog 10 #[.pointer (some ⟨v, 0, none⟩), .int .i64 a, .int .i64 t] w fun e w' => ∃ Ak capk, e = .returned (.tuple #[.slice Ak (vrow s a t).length capk, .bool true]) ∧ SlT w' 7 castc Ak capk (vrow s a t) ∧ Keep none_ w w' ∧ (∀ q, inA Ak q → w.heap.size ≤ q) := by
 have hFlt := Vot.lt h
 have hvlt := hFlt _ (Vot.at_ h)
 have hFo : ∀ q, F q → 0 ≤ q := fun q _ => Nat.zero_le q
 have hFr : ∀ q, F q → F q ∨ w.heap.size ≤ q := fun _ h => .inl h
 have hK0 : Keep none_ w w := Keep.refl _ _
 have hzhK0 := Keep.size hK0
 refine enterM Try.func10 rfl [pt v, nt a, nt t] 31 rfl rfl rfl ?_
 refine V_pick [(0, pt v), (1, nt a), (2, nt t)] rfl ?_
 refine V_seq ?_
 refine V_region ?_
 refine OI_alloc 36 (.slice none 0 0) [.slice none 0 0] (some 6) (by kernel_rfl) (by kernel_rfl) (by kernel_rfl) ?_
 intro b1 w1 e1 hb1 k1 z1
 have hsz2 := Keep.size k1
 replace h := Vot.keep h k1 (fun _ _ f => f)
 replace hK0 := Keep.tr hK0 (Keep.ofNone k1)
 have hb1lt := hb1.lt
 refine OI_alloc 4 (.bool false) [.bool false] (some 7) (by kernel_rfl) (by kernel_rfl) (by kernel_rfl) ?_
 intro b3 w3 e3 hb3 k3 z3
 have hsz4 := Keep.size k3
 replace hb1 := hb1.keep k3 (fun f => f)
 replace h := Vot.keep h k3 (fun _ _ f => f)
 replace hK0 := Keep.tr hK0 (Keep.ofNone k3)
 have hb3lt := hb3.lt
 refine OI_end rfl ?_
 refine X_then ?_
 refine V_seq ?_
 refine V_region ?_
 refine OI_static 3 [(6, pt b1), (7, pt b3), (12, pt v), (13, nt a), (14, nt t)] (by kernel_rfl) ?_
 refine OI_call { callee := (Callee.value (Operand.func 36)), args := #[(Operand.tmp 12), (Operand.tmp 13), (Operand.tmp 14)], argTypes := #[29, 3, 3] } 36 #[pt v, nt a, nt t] (some 15) (by kernel_rfl) (by kernel_rfl) (by kernel_rfl) (votesfn_spec _ rfl a t _) ?_
 rintro _ w5 ⟨bv7, bw8, bt9, rfl, hbv7, hbw8, hbt9, hk6, hgebv7, hgebw8, hgebt9⟩
 refine ⟨_, rfl, ?_⟩
 have hsz10 := Keep.size hk6
 replace hb1 := hb1.keep hk6 (fun f => f)
 replace hb3 := hb3.keep hk6 (fun f => f)
 replace h := Vot.keep h hk6 (fun _ _ f => f)
 replace hK0 := Keep.tr hK0 (Keep.ofNone hk6)
 have hbv7lt := hbv7.lt
 have hbw8lt := hbw8.lt
 have hbt9lt := hbt9.lt
 refine OI_static 5 [(6, pt b1), (7, pt b3), (8, .func (.func 56) #[] #[pt bv7, pt bw8, pt bt9])] (by kernel_rfl) ?_
 refine OI_end rfl ?_
 refine X_then ?_
 refine V_seq ?_
 refine V_seq ?_
 refine V_region ?_
 refine OI_static 2 [(6, pt b1), (7, pt b3), (8, .func (.func 56) #[] #[pt bv7, pt bw8, pt bt9]), (17, .bool false)] (by kernel_rfl) ?_
 refine OI_end rfl ?_
 refine X_then ?_
 refine V_false rfl ?_
 refine V_skip ?_
 refine X_then ?_
 refine V_seq ?_
 refine V_region ?_
 refine OI_alloc 36 (.slice none 0 0) [.slice none 0 0] (some 9) (by kernel_rfl) (by kernel_rfl) (by kernel_rfl) ?_
 intro b11 w11 e11 hb11 k11 z11
 have hsz12 := Keep.size k11
 replace hb1 := hb1.keep k11 (fun f => f)
 replace hb3 := hb3.keep k11 (fun f => f)
 replace hbv7 := hbv7.keep k11 (fun f => f)
 replace hbw8 := hbw8.keep k11 (fun f => f)
 replace hbt9 := hbt9.keep k11 (fun f => f)
 replace h := Vot.keep h k11 (fun _ _ f => f)
 replace hK0 := Keep.tr hK0 (Keep.ofNone k11)
 have hb11lt := hb11.lt
 refine OI_end rfl ?_
 refine X_then ?_
 refine V_seq ?_
 refine V_seq ?_
 refine V_region ?_
 refine OI_static 1 [(6, pt b1), (7, pt b3), (9, pt b11), (18, .func (.func 56) #[] #[pt bv7, pt bw8, pt bt9])] (by kernel_rfl) ?_
 refine OI_end rfl ?_
 refine X_then ?_
 refine V_block ?_
 obtain ⟨A13, cap13, hva13⟩ := Vot.arr h
 have hal13 := VotA.lenA hva13
 have hcl9 := Vot.cslen h
 have hvl9 := vrow_len s a t
 refine V_pick [(6, pt b1), (7, pt b3), (9, pt b11), (18, .func (.func 56) #[] #[pt bv7, pt bw8, pt bt9])] rfl ?_
 have hN0 : w.heap.size ≤ w11.heap.size := Keep.size hK0
 refine V_range2 (gf := 56) (caps := #[pt bv7, pt bw8, pt bt9]) (m := (vrow s a t).length) (by kernel_rfl) (by kernel_rfl) (by kernel_rfl) (votes1_iter bv7 bw8 bt9 v P.gv P.gr cap13 P.pp A13 s a t (by omega)) (⟨VotA.grat hva13, VotA.ok hva13 rfl (fun _ => rfl) hbv7 hbw8 hbt9⟩) (fun W W' h k => ⟨h.1.quiet k, h.2.quiet k⟩) (GV.enc2_size _) (fun M1 k W => ∃ Ak : Option Addr, ∃ capk : Nat, (Blk W b1 [.slice none 0 0] 36) ∧ (Blk W b3 [.bool false] 4) ∧ (Blk W bv7 [pt v] 29) ∧ (Blk W bw8 [nt a] 3) ∧ (Blk W bt9 [nt t] 3) ∧ (VotA A13 cap13 F W v P s) ∧ (Keep none_ w W) ∧ (Blk W b11 [.slice Ak (((vrow s a t).take k).length) capk] 36) ∧ (SlT W 7 castc Ak capk ((vrow s a t).take k)) ∧ (∀ q, inA Ak q → M1 ≤ q)) (fun M1 c k W => False) (fun M1 k W W' h hk => by obtain ⟨Ak, capk, jb1, jb3, jbv7, jbw8, jbt9, jhva13, jhK0, jb11, jAk, ownk⟩ := h; exact ⟨Ak, capk, jb1.quiet hk, jb3.quiet hk, jbv7.quiet hk, jbw8.quiet hk, jbt9.quiet hk, VotA.quiet jhva13 hk, jhK0.quiet hk (by omega), jb11.quiet hk, jAk.quiet hk, ownk⟩) (fun _ _ _ _ _ h _ => h.elim) (fun M1 hM1 => ⟨none, 0, hb1, hb3, hbv7, hbw8, hbt9, hva13, hK0, hb11, SlT.nil _ _ _, fun q h => (inA_none h).elim⟩) (fun M1 k W h => by obtain ⟨Ak, capk, jb1, jb3, jbv7, jbw8, jbt9, jhva13, jhK0, jb11, jAk, ownk⟩ := h; exact (VotA.ok jhva13 rfl (fun _ => rfl) jbv7 jbw8 jbt9)) ?_ ?_ (fun _ _ _ _ _ _ _ _ h _ => h.elim)
 ·
  intro lp D M1 k W hD hl hM hMW hkm ⟨Ak, capk, jb1, jb3, jbv7, jbw8, jbt9, jhva13, jhK0, jb11, jAk, ownk⟩ ⟨rr, hrr⟩ hDD
  have hzjhK0 := Keep.size jhK0
  have hb1lt := jb1.lt
  have hb3lt := jb3.lt
  have hbv7lt := jbv7.lt
  have hbw8lt := jbw8.lt
  have hbt9lt := jbt9.lt
  have hb11lt := jb11.lt
  have ltjAk := SlT.lt jAk
  obtain ⟨x, hx⟩ : ∃ x, (vrow s a t)[k]? = some x := ⟨_, List.getElem?_eq_getElem (by omega)⟩
  rw [GV.enc2_at hx]
  have hlk : ((vrow s a t).take k).length = k := by rw [List.length_take]; omega
  have hs1 : (vrow s a t).take (k + 1) = (vrow s a t).take k ++ [x] := by obtain ⟨h1, h2⟩ := List.getElem?_eq_some_iff.1 hx; rw [List.take_succ_eq_append_getElem h1, h2]
  refine V_pick [(6, pt b1), (7, pt b3), (9, pt b11), (19, nt x.1), (20, .agg (Vt.cells x.2).toArray)] rfl ?_
  have hfen : Keep (fen w11.heap.size M1) W W := Keep.refl _ _
  have hzhfen := Keep.size hfen
  refine V_seq ?_
  refine V_region ?_
  refine OI_static 1 [(6, pt b1), (7, pt b3), (9, pt b11), (10, nt x.1), (20, .agg (Vt.cells x.2).toArray)] (by kernel_rfl) ?_
  refine OI_end rfl ?_
  refine X_then ?_
  refine V_region ?_
  refine OI_alloc 26 (.agg #[nt 0, .bool false, nt 0, nt 0, nt 0, nt 0]) [nt 0, .bool false, nt 0, nt 0, nt 0, nt 0] (some 11) (by kernel_rfl) (by kernel_rfl) (by kernel_rfl) ?_
  intro b14 w14 e14 hb14 k14 z14
  have hsz15 := Keep.size k14
  replace jb1 := jb1.keep k14 (fun f => f)
  replace jb3 := jb3.keep k14 (fun f => f)
  replace jbv7 := jbv7.keep k14 (fun f => f)
  replace jbw8 := jbw8.keep k14 (fun f => f)
  replace jbt9 := jbt9.keep k14 (fun f => f)
  replace jb11 := jb11.keep k14 (fun f => f)
  replace jAk := SlT.keep0 jAk k14
  replace jhva13 := VotA.keep jhva13 k14 (fun _ _ f => f)
  replace jhK0 := Keep.tr jhK0 (Keep.ofNone k14)
  replace hfen := Keep.tr hfen (Keep.ofNone k14)
  have hb14lt := hb14.lt
  refine OI_set (m := 6) (kd := true) 26 (.tmp 11) (.tmp 20) 0 (.agg (Vt.cells x.2).toArray) (Vt.cells x.2) none (by kernel_rfl) (by kernel_rfl) (by kernel_rfl) hb14 (by kernel_rfl) rfl (Vt.len _) (Nat.le_of_ble_eq_true (by kernel_rfl)) (Vt.one _) ?_
  intro w16 hb14_19 hk17 hz18
  replace hb14_19 : Blk w16 b14 (Vt.cells x.2) 26 := (by rwa [over_whole (by rw [Vt.len]; rfl)] at hb14_19)
  have hsz20 := Keep.size hk17
  replace jb1 := jb1.keep hk17 (by show ¬ (_ = _); omega)
  replace jb3 := jb3.keep hk17 (by show ¬ (_ = _); omega)
  replace jbv7 := jbv7.keep hk17 (by show ¬ (_ = _); omega)
  replace jbw8 := jbw8.keep hk17 (by show ¬ (_ = _); omega)
  replace jbt9 := jbt9.keep hk17 (by show ¬ (_ = _); omega)
  replace jb11 := jb11.keep hk17 (by show ¬ (_ = _); omega)
  replace jAk := SlT.keep jAk hk17 (fun q hq hs => by have hs : q = b14 := hs; have g0 := ownk q hq; have g1 := ltjAk q hq; omega)
  replace jhva13 := VotA.keep jhva13 hk17 (fun q hq hs => by have hs : q = b14 := hs; have g0 := hFo q hq; have g1 := hFlt q hq; omega)
  replace jhK0 := Keep.fresh jhK0 hk17 (by intro i hi hs; first | exact hs | exact Or.inl hs | exact Or.inr hs | (exfalso; have hs2 : i = b14 := hs; omega))
  replace hfen := Keep.fresh hfen hk17 (by intro i hi hs; have hs2 : i = b14 := hs; show _ ∨ _; omega)
  refine OI_end rfl ?_
  refine X_begin2 hfen ?_
  intro W2 hk2 ⟨r2, hr2⟩ hD2
  have hsz21 := Keep.size hk2
  replace jb1 := Blk.quiet jb1 hk2
  replace jb3 := Blk.quiet jb3 hk2
  replace jbv7 := Blk.quiet jbv7 hk2
  replace jbw8 := Blk.quiet jbw8 hk2
  replace jbt9 := Blk.quiet jbt9 hk2
  replace jb11 := Blk.quiet jb11 hk2
  replace hb14_19 := Blk.quiet hb14_19 hk2
  replace jAk := SlT.quiet jAk hk2
  replace jhva13 := VotA.quiet jhva13 hk2
  replace jhK0 := Keep.quiet jhK0 hk2 (by omega)
  have hzhk2 := Keep.size hk2
  have hfenb : Keep (fen w11.heap.size M1) W2 W2 := Keep.refl _ _
  have hzhfenb := Keep.size hfenb
  refine V_block ?_
  refine V_seq ?_
  refine V_region ?_
  refine OI_cell 36 (.tmp 9) 0 (.slice Ak (((vrow s a t).take k).length) capk) (some 21) (by kernel_rfl) (by kernel_rfl) jb11 (m := 1) (by kernel_rfl) rfl ?_
  refine OI_static 2 [(6, pt b1), (7, pt b3), (9, pt b11), (11, pt b14), (21, .slice Ak (((vrow s a t).take k).length) capk), (22, nt x.1)] (by kernel_rfl) ?_
  refine OI_agg 26 (.tmp 11) 0 (Vt.cells x.2) (some 23) (by kernel_rfl) (by kernel_rfl) hb14_19 (m := 6) (by kernel_rfl) (take_all (Vt.len _)) (Vt.len _) ?_
  refine OI_static 4 [(6, pt b1), (7, pt b3), (9, pt b11), (21, .slice Ak (((vrow s a t).take k).length) capk), (24, .agg #[nt x.1, nt x.2.kind, .bool x.2.aye, nt x.2.level, nt x.2.a, nt x.2.n, nt x.2.s])] (by kernel_rfl) ?_
  refine OI_slit (E := 87) (zv := .agg #[nt 0, nt 0, .bool false, nt 0, nt 0, nt 0, nt 0]) (sz := 7) (by_ := 56) 36 1 #[(0, (Operand.tmp 24))] [.agg #[nt x.1, nt x.2.kind, .bool x.2.aye, nt x.2.level, nt x.2.a, nt x.2.n, nt x.2.s]] [nt x.1, nt x.2.kind, .bool x.2.aye, nt x.2.level, nt x.2.a, nt x.2.n, nt x.2.s] (some 25) (by kernel_rfl) (by kernel_rfl) (by kernel_rfl) (by omega) rfl (by omega) (by intro v hv; simp only [List.mem_cons, List.not_mem_nil, or_false] at hv; rcases hv with rfl <;> rfl) (by kernel_rfl) rfl ?_
  intro b22 w22 e22 hb22 k22 z22
  have hsz23 := Keep.size k22
  replace jb1 := jb1.keep k22 (fun f => f)
  replace jb3 := jb3.keep k22 (fun f => f)
  replace jbv7 := jbv7.keep k22 (fun f => f)
  replace jbw8 := jbw8.keep k22 (fun f => f)
  replace jbt9 := jbt9.keep k22 (fun f => f)
  replace jb11 := jb11.keep k22 (fun f => f)
  replace hb14_19 := hb14_19.keep k22 (fun f => f)
  replace jAk := SlT.keep0 jAk k22
  replace jhva13 := VotA.keep jhva13 k22 (fun _ _ f => f)
  replace jhK0 := Keep.tr jhK0 (Keep.ofNone k22)
  replace hfenb := Keep.tr hfenb (Keep.ofNone k22)
  have hb22lt := hb22.lt
  refine OI_append (t := 36) (at2 := 36) (E := 87) (E2 := 87) (sz := 7) (by_ := 56) (zv := .agg #[nt 0, nt 0, .bool false, nt 0, nt 0, nt 0, nt 0]) (m := ((vrow s a t).take k).length) (k := 1) (.tmp 21) (.tmp 25) (.slice Ak (((vrow s a t).take k).length) capk) (.slice (some ⟨b22, 0, none⟩) 1 1) (some 26) (by kernel_rfl) (by kernel_rfl) (by kernel_rfl) (by kernel_rfl) (by kernel_rfl) (by kernel_rfl) (by kernel_rfl) (SlT.slr jAk) (slr_one hb22 (castc_len x)) (castc_one x) (by first | omega | (simp only [List.length_nil]; omega)) (by omega) (by first | omega | (simp only [List.length_nil]; omega)) (by omega) ?_
  intro vv9 w24 hap
  obtain ⟨A24, cap24, rfl, hA24, hk24, own24x⟩ := app_one (f := castc) (xs := ((vrow s a t).take k)) (x := x) (A := Ak) (cap := capk) hap (fun x _ => castc_len x) (castc_len _)
  have own24 : ∀ q, inA A24 q → M1 ≤ q := fun q hq => by rcases own24x q hq with h | h; exact ownk q h; (show M1 ≤ q; omega)
  have hsz25 := Keep.size hk24
  replace jb1 := jb1.keep hk24 (fun hs => by have h1 := ownk _ hs; have h2 := ltjAk _ hs; omega)
  replace jb3 := jb3.keep hk24 (fun hs => by have h1 := ownk _ hs; have h2 := ltjAk _ hs; omega)
  replace jbv7 := jbv7.keep hk24 (fun hs => by have h1 := ownk _ hs; have h2 := ltjAk _ hs; omega)
  replace jbw8 := jbw8.keep hk24 (fun hs => by have h1 := ownk _ hs; have h2 := ltjAk _ hs; omega)
  replace jbt9 := jbt9.keep hk24 (fun hs => by have h1 := ownk _ hs; have h2 := ltjAk _ hs; omega)
  replace jb11 := jb11.keep hk24 (fun hs => by have h1 := ownk _ hs; have h2 := ltjAk _ hs; omega)
  replace hb14_19 := hb14_19.keep hk24 (fun hs => by have h1 := ownk _ hs; have h2 := ltjAk _ hs; omega)
  replace jhva13 := VotA.keep jhva13 hk24 (fun q hq hs => by have g0 := hFo q hq; have g1 := hFlt q hq; have h1 := ownk q hs; have h2 := ltjAk q hs; omega)
  replace jhK0 := Keep.fresh jhK0 hk24 (by intro i hi hs; first | exact hs | (exfalso; have h1 := ownk i hs; have h2 := ltjAk i hs; omega) | (have h1 := ownk i hs; have h2 := ltjAk i hs; show _ ∨ _; omega))
  replace hfenb := Keep.fresh hfenb hk24 (by intro i hi hs; have h1 := ownk i hs; have h2 := ltjAk i hs; show _ ∨ _; omega)
  have lt24 := SlT.lt hA24
  refine OI_set (m := 1) (kd := false) 36 (.tmp 9) (.tmp 26) 0 (.slice A24 ((((vrow s a t).take k) ++ [x]).length) cap24) [.slice A24 ((((vrow s a t).take k) ++ [x]).length) cap24] none (by kernel_rfl) (by kernel_rfl) (by kernel_rfl) jb11 (by kernel_rfl) (by kernel_rfl) (by kernel_rfl) (Nat.le_of_ble_eq_true (by kernel_rfl)) (by simp [Value.oneCell']) ?_
  intro w26 hb11_29 hk27 hz28
  replace hb11_29 : Blk w26 b11 [.slice A24 ((((vrow s a t).take k) ++ [x]).length) cap24] 36 := hb11_29
  have hsz30 := Keep.size hk27
  replace jb1 := jb1.keep hk27 (by show ¬ (_ = _); omega)
  replace jb3 := jb3.keep hk27 (by show ¬ (_ = _); omega)
  replace jbv7 := jbv7.keep hk27 (by show ¬ (_ = _); omega)
  replace jbw8 := jbw8.keep hk27 (by show ¬ (_ = _); omega)
  replace jbt9 := jbt9.keep hk27 (by show ¬ (_ = _); omega)
  replace hb14_19 := hb14_19.keep hk27 (by show ¬ (_ = _); omega)
  replace hA24 := SlT.keep hA24 hk27 (fun q hq hs => by have hs : q = b11 := hs; have g0 := own24 q hq; have g1 := lt24 q hq; omega)
  replace jhva13 := VotA.keep jhva13 hk27 (fun q hq hs => by have hs : q = b11 := hs; have g0 := hFo q hq; have g1 := hFlt q hq; omega)
  replace jhK0 := Keep.fresh jhK0 hk27 (by intro i hi hs; first | exact hs | exact Or.inl hs | exact Or.inr hs | (exfalso; have hs2 : i = b11 := hs; omega))
  replace hfenb := Keep.fresh hfenb hk27 (by intro i hi hs; have hs2 : i = b11 := hs; show _ ∨ _; omega)
  refine OI_end rfl ?_
  refine X_then ?_
  refine V_seq ?_
  refine V_region ?_
  refine OI_cell 36 (.tmp 9) 0 (.slice A24 ((((vrow s a t).take k) ++ [x]).length) cap24) (some 27) (by kernel_rfl) (by kernel_rfl) hb11_29 (m := 1) (by kernel_rfl) rfl ?_
  refine OI_static 3 [(6, pt b1), (7, pt b3), (29, .bool (decide ((((((vrow s a t).take k) ++ [x]).length : Nat) : Int) > 100)))] (by kernel_rfl) ?_
  refine OI_end rfl ?_
  refine X_then ?_
  refine V_if ((((((vrow s a t).take k) ++ [x]).length : Nat) : Int) > 100) (by kernel_rfl) (fun hc31 => ?_) (fun hc31 => ?_)
  ·
   exact (by simp only [List.length_append, List.length_cons, List.length_nil] at hc31; omega : False).elim
  ·
   refine V_skip ?_
   refine X_block ?_
   exact fun a _ => ⟨hfenb, A24, cap24, jb1, jb3, jbv7, jbw8, jbt9, jhva13, jhK0, by rw [hs1]; exact hb11_29, by rw [hs1]; exact hA24, own24⟩
 ·
  intro D M1 W hD hM ⟨Ak, capk, jb1, jb3, jbv7, jbw8, jbt9, jhva13, jhK0, jb11, jAk, ownk⟩ hDD
  have hzjhK0 := Keep.size jhK0
  have hb1lt := jb1.lt
  have hb3lt := jb3.lt
  have hbv7lt := jbv7.lt
  have hbw8lt := jbw8.lt
  have hbt9lt := jbt9.lt
  have hb11lt := jb11.lt
  have ltjAk := SlT.lt jAk
  rw [List.take_length] at jAk jb11
  refine X_block ?_
  refine X_then ?_
  refine V_seq ?_
  refine V_region ?_
  refine OI_cell 36 (.tmp 9) 0 (.slice Ak ((vrow s a t).length) capk) (some 30) (by kernel_rfl) (by kernel_rfl) jb11 (m := 1) (by kernel_rfl) rfl ?_
  refine OI_set (m := 1) (kd := false) 36 (.tmp 6) (.tmp 30) 0 (.slice Ak ((vrow s a t).length) capk) [.slice Ak ((vrow s a t).length) capk] none (by kernel_rfl) (by kernel_rfl) (by kernel_rfl) jb1 (by kernel_rfl) (by kernel_rfl) (by kernel_rfl) (Nat.le_of_ble_eq_true (by kernel_rfl)) (by simp [Value.oneCell']) ?_
  intro w32 hb1_35 hk33 hz34
  replace hb1_35 : Blk w32 b1 [.slice Ak ((vrow s a t).length) capk] 36 := hb1_35
  have hsz36 := Keep.size hk33
  replace jb3 := jb3.keep hk33 (by show ¬ (_ = _); omega)
  replace jbv7 := jbv7.keep hk33 (by show ¬ (_ = _); omega)
  replace jbw8 := jbw8.keep hk33 (by show ¬ (_ = _); omega)
  replace jbt9 := jbt9.keep hk33 (by show ¬ (_ = _); omega)
  replace jb11 := jb11.keep hk33 (by show ¬ (_ = _); omega)
  replace jAk := SlT.keep jAk hk33 (fun q hq hs => by have hs : q = b1 := hs; have g0 := ownk q hq; have g1 := ltjAk q hq; omega)
  replace jhva13 := VotA.keep jhva13 hk33 (fun q hq hs => by have hs : q = b1 := hs; have g0 := hFo q hq; have g1 := hFlt q hq; omega)
  replace jhK0 := Keep.fresh jhK0 hk33 (by intro i hi hs; first | exact hs | exact Or.inl hs | exact Or.inr hs | (exfalso; have hs2 : i = b1 := hs; omega))
  replace hDD := (Keep.block hk33 _ (Array.getElem?_eq_some_iff.1 hDD).1 (by show ¬ (_ = _); omega)).trans hDD
  refine OI_set (m := 1) (kd := false) 4 (.tmp 7) (.const (Value.bool true)) 0 (.bool true) [.bool true] none (by kernel_rfl) (by kernel_rfl) (by kernel_rfl) jb3 (by kernel_rfl) (by kernel_rfl) (by kernel_rfl) (Nat.le_of_ble_eq_true (by kernel_rfl)) (by simp [Value.oneCell']) ?_
  intro w37 hb3_40 hk38 hz39
  replace hb3_40 : Blk w37 b3 [.bool true] 4 := hb3_40
  have hsz41 := Keep.size hk38
  replace hb1_35 := hb1_35.keep hk38 (by show ¬ (_ = _); omega)
  replace jbv7 := jbv7.keep hk38 (by show ¬ (_ = _); omega)
  replace jbw8 := jbw8.keep hk38 (by show ¬ (_ = _); omega)
  replace jbt9 := jbt9.keep hk38 (by show ¬ (_ = _); omega)
  replace jb11 := jb11.keep hk38 (by show ¬ (_ = _); omega)
  replace jAk := SlT.keep jAk hk38 (fun q hq hs => by have hs : q = b3 := hs; have g0 := ownk q hq; have g1 := ltjAk q hq; omega)
  replace jhva13 := VotA.keep jhva13 hk38 (fun q hq hs => by have hs : q = b3 := hs; have g0 := hFo q hq; have g1 := hFlt q hq; omega)
  replace jhK0 := Keep.fresh jhK0 hk38 (by intro i hi hs; first | exact hs | exact Or.inl hs | exact Or.inr hs | (exfalso; have hs2 : i = b3 := hs; omega))
  replace hDD := (Keep.block hk38 _ (Array.getElem?_eq_some_iff.1 hDD).1 (by show ¬ (_ = _); omega)).trans hDD
  refine OI_end rfl ?_
  refine X_then ?_
  refine V_ret ?_
  exact leave1 (.tuple #[.slice Ak (vrow s a t).length capk, .bool true]) (.inl rfl) hDD (fun w' hk => ⟨res_cells2 (n1 := 1) (n2 := 1) rfl rfl rfl (by kernel_rfl) (by kernel_rfl) (Blk.quiet hb1_35 hk) (Blk.quiet hb3_40 hk) , ⟨Ak, capk, rfl, SlT.quiet jAk hk, Keep.quiet jhK0 hk (by omega), fun q h => (by have := ownk q h; omega)⟩⟩)
end Go.Al

