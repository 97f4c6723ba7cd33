/-
  Put together out of 11 texts: Walks of package voting: Open, Close, Tally. Walks of package voting: Vote. Walks of package voting: New; the voting with its tracks. Referenda: what is computed. Walks of package per. Walks of package track. What a Refer holds, and where. Walks of package slices: few numbers are sorted. Walks of package refer: what is read. Walks of package refer: all, and who waits. Walks of package refer: who waits.
-/
import Derived.Test.YtjjfimbihdoknaaGreatReferTracksB2
namespace Go.Al
open Go Go.RowKit Go.Proofs
def openE (s : VS) (ref t : Int) : Int := if ¬ (0 ≤ ref ∧ ref < 12) ∨ ¬ (0 ≤ t ∧ t < 4) then 1 else if (pollAt s ref).isSome then 5 else 0
def openS (s : VS) (ref t : Int) : VS := if openE s ref t = 0 then s.setP ref.toNat ⟨t, Tly.zero, 0, 0⟩ else s
def closeE (s : VS) (ref st : Int) : Int := match pollAt s ref with | none => 4 | some q => if q.state ≠ 0 then 9 else if ¬ (2 ≤ st ∧ st ≤ 6) then 1 else 0
def closeS (s : VS) (ref st e : Int) : VS := match pollAt s ref with | none => s | some q => if closeE s ref st = 0 then s.setP ref.toNat { q with state := st, stop := e } else s
def tallyT (s : VS) (ref : Int) : Tly := match pollAt s ref with | none => Tly.zero | some q => q.t

set_option maxRecDepth 10000 in
theorem open_bad (v : Nat) (ref t : Int) (w : World) (hr : ¬ (0 ≤ ref ∧ ref < 12) ∨ ¬ (0 ≤ t ∧ t < 4)) : Calls Tryz.prog 44 #[pt v, .int .i64 ref, .int .i64 t] w fun e w' => e = .returned (.int .i64 1) ∧ Keep none_ w w' := by
 have hK0 : Keep none_ w w := Keep.refl _ _
 have hzhK0 := Keep.size hK0
 refine enterV Tryz.func44 rfl [pt v, nt ref, nt t] 33 rfl rfl rfl ?_
 refine V_pick [(0, pt v), (1, nt ref), (2, nt t)] rfl ?_
 refine Vr ?_
 refine Os 1 [(0, pt v), (1, nt ref), (2, nt t)] ?_
 refine Oe ?_
 refine V_seq ?_
 refine V_block ?_
 refine Vr ?_
 refine Os 4 [(0, pt v), (1, nt ref), (2, nt t), (10, .bool false), (11, nt ref)] ?_
 refine Ok { callee := (Callee.value (Operand.func 96)), args := #[(Operand.tmp 11), (Operand.const (Value.int IntKind.i64 0)), (Operand.const (Value.int IntKind.i64 11))], argTypes := #[3, 3, 3] } 96 #[nt ref, nt 0, nt 11] (some 12) (vIn_spec ref 0 11 _) ?_
 rintro _ w ⟨rfl, rfl⟩
 refine ⟨_, rfl, ?_⟩
 refine Os 8 [(0, pt v), (1, nt ref), (2, nt t), (15, .bool (!(decide ((0 : Int) ≤ ref ∧ ref ≤ 11))))] ?_
 by_cases hg2 : (0 : Int) ≤ ref ∧ ref ≤ 11
 ·
  refine OI_eq [(0, pt v), (1, nt ref), (2, nt t), (15, .bool false)] (by first | simp [hg2] | rfl) ?_
  refine Os 9 [(0, pt v), (1, nt ref), (2, nt t), (15, .bool false), (16, nt t)] ?_
  refine Ok { callee := (Callee.value (Operand.func 97)), args := #[(Operand.tmp 16)], argTypes := #[3] } 97 #[nt t] (some 17) (isTrk_spec t _) ?_
  rintro _ w ⟨rfl, rfl⟩
  refine ⟨_, rfl, ?_⟩
  refine Os 13 [(0, pt v), (1, nt ref), (2, nt t), (7, .bool (!(decide (0 ≤ t ∧ t ≤ 3))))] ?_
  refine Oe ?_
  refine V_not (0 ≤ t ∧ t ≤ 3) (by kernel_rfl) (fun hc4 => ?_) (fun hc4 => ?_)
  ·
   refine Vr ?_
   refine Os 1 [(6, nt 1)] ?_
   refine Oe ?_
   refine V_ret ?_
   refine X_ret_block ?_
   refine X_ret_then ?_
   exact X_return (nt 1) rfl ⟨rfl, hK0⟩
  exact (by omega : False).elim
 refine OI_eq [(0, pt v), (1, nt ref), (2, nt t), (15, .bool true)] (by first | simp [hg2] | rfl) ?_
 refine Os 13 [(0, pt v), (1, nt ref), (2, nt t), (7, .bool true)] ?_
 refine Oe ?_
 refine V_true rfl ?_
 refine Vr ?_
 refine Os 1 [(6, nt 1)] ?_
 refine Oe ?_
 refine V_ret ?_
 refine X_ret_block ?_
 refine X_ret_then ?_
 exact X_return (nt 1) rfl ⟨rfl, hK0⟩

set_option maxRecDepth 10000 in
theorem open_has (v gv gr i : Nat) (pp : List (Option Addr)) (b : Nat) (t : Int) (w : World) (hv : Blk w v (pp.map Value.pointer ++ [.pointer (some ⟨gv, 0, none⟩), .pointer (some ⟨gr, 0, none⟩)]) 127) (hlen : pp.length = 12) (hi : i < 12) (hx : pp[i]? = some (some ⟨b, 0, none⟩)) (ht : 0 ≤ t ∧ t < 4) : Calls Tryz.prog 44 #[.pointer (some ⟨v, 0, none⟩), .int .i64 (i : Int), .int .i64 t] w fun e w' => e = .returned (.int .i64 5) ∧ Keep none_ w w' := by
 have hK0 : Keep none_ w w := Keep.refl _ _
 have hzhK0 := Keep.size hK0
 refine enterV Tryz.func44 rfl [pt v, nt ((i : Nat) : Int), nt t] 33 rfl rfl rfl ?_
 refine V_pick [(0, pt v), (1, nt ((i : Nat) : Int)), (2, nt t)] rfl ?_
 refine Vr ?_
 refine Os 1 [(0, pt v), (1, nt ((i : Nat) : Int)), (2, nt t)] ?_
 refine Oe ?_
 refine V_seq ?_
 refine V_block ?_
 refine Vr ?_
 refine Os 4 [(0, pt v), (1, nt ((i : Nat) : Int)), (2, nt t), (10, .bool false), (11, nt ((i : Nat) : Int))] ?_
 refine Ok { callee := (Callee.value (Operand.func 96)), args := #[(Operand.tmp 11), (Operand.const (Value.int IntKind.i64 0)), (Operand.const (Value.int IntKind.i64 11))], argTypes := #[3, 3, 3] } 96 #[nt ((i : Nat) : Int), nt 0, nt 11] (some 12) (vIn_spec ((i : Nat) : Int) 0 11 _) ?_
 rintro _ w ⟨rfl, rfl⟩
 refine ⟨_, rfl, ?_⟩
 refine Os 8 [(0, pt v), (1, nt ((i : Nat) : Int)), (2, nt t), (15, .bool (!(decide ((0 : Int) ≤ ((i : Nat) : Int) ∧ ((i : Nat) : Int) ≤ 11))))] ?_
 refine OI_eq [(0, pt v), (1, nt ((i : Nat) : Int)), (2, nt t), (15, .bool false)] (by rw [decide_eq_true (by omega : (0 : Int) ≤ ((i : Nat) : Int) ∧ ((i : Nat) : Int) ≤ 11)]; rfl) ?_
 refine Os 9 [(0, pt v), (1, nt ((i : Nat) : Int)), (2, nt t), (15, .bool false), (16, nt t)] ?_
 refine Ok { callee := (Callee.value (Operand.func 97)), args := #[(Operand.tmp 16)], argTypes := #[3] } 97 #[nt t] (some 17) (isTrk_spec t _) ?_
 rintro _ w ⟨rfl, rfl⟩
 refine ⟨_, rfl, ?_⟩
 refine Os 13 [(0, pt v), (1, nt ((i : Nat) : Int)), (2, nt t), (7, .bool (!(decide (0 ≤ t ∧ t ≤ 3))))] ?_
 refine Oe ?_
 refine V_eq [(0, pt v), (1, nt ((i : Nat) : Int)), (2, nt t), (7, .bool false)] (by rw [decide_eq_true (by omega : 0 ≤ t ∧ t ≤ 3)]; rfl) ?_
 refine V_false rfl ?_
 refine Vr ?_
 refine Os 2 [(0, pt v), (1, nt ((i : Nat) : Int)), (2, nt t), (21, pt v), (22, nt ((i : Nat) : Int))] ?_
 refine Ok { callee := (Callee.value (Operand.func 64)), args := #[(Operand.tmp 21), (Operand.tmp 22)], argTypes := #[33, 3] } 64 #[pt v, nt ((i : Nat) : Int)] (some 23) (pollfn_at v gv gr i pp (some ⟨b, 0, none⟩) _ hv hlen hi hx) ?_
 rintro _ w9 ⟨rfl, hk10⟩
 refine ⟨_, rfl, ?_⟩
 have hsz11 := Keep.size hk10
 replace hv := hv.keep hk10 (fun f => f)
 replace hK0 := Keep.tr hK0 (Keep.ofNone hk10)
 refine Os 5 [(0, pt v), (1, nt ((i : Nat) : Int)), (2, nt t), (20, .bool true)] ?_
 refine Oe ?_
 refine V_true rfl ?_
 refine Vr ?_
 refine Os 1 [(6, nt 5)] ?_
 refine Oe ?_
 refine V_ret ?_
 refine X_ret_block ?_
 refine X_ret_then ?_
 exact X_return (nt 5) rfl ⟨rfl, hK0⟩

set_option maxRecDepth 10000 in
theorem open_new (v gv gr i : Nat) (pp : List (Option Addr)) (t : Int) (w : World) (hv : Blk w v (pp.map Value.pointer ++ [.pointer (some ⟨gv, 0, none⟩), .pointer (some ⟨gr, 0, none⟩)]) 127) (hlen : pp.length = 12) (hi : i < 12) (hx : pp[i]? = some none) (ht : 0 ≤ t ∧ t < 4) : Calls Tryz.prog 44 #[.pointer (some ⟨v, 0, none⟩), .int .i64 (i : Int), .int .i64 t] w fun e w' => ∃ b : Nat, e = .returned (.int .i64 0) ∧ w.heap.size ≤ b ∧ Blk w' b (PollS.cells ⟨t, Tly.zero, 0, 0⟩) 133 ∧ Blk w' v ((pp.set i (some ⟨b, 0, none⟩)).map Value.pointer ++ [.pointer (some ⟨gv, 0, none⟩), .pointer (some ⟨gr, 0, none⟩)]) 127 ∧ Keep (only v) w w' := by
 have hvlt := hv.lt
 have hK0 : Keep (only v) w w := Keep.refl _ _
 have hzhK0 := Keep.size hK0
 refine enterV Tryz.func44 rfl [pt v, nt ((i : Nat) : Int), nt t] 33 rfl rfl rfl ?_
 refine V_pick [(0, pt v), (1, nt ((i : Nat) : Int)), (2, nt t)] rfl ?_
 refine Vr ?_
 refine Os 1 [(0, pt v), (1, nt ((i : Nat) : Int)), (2, nt t)] ?_
 refine Oe ?_
 refine V_seq ?_
 refine V_block ?_
 refine Vr ?_
 refine Os 4 [(0, pt v), (1, nt ((i : Nat) : Int)), (2, nt t), (10, .bool false), (11, nt ((i : Nat) : Int))] ?_
 refine Ok { callee := (Callee.value (Operand.func 96)), args := #[(Operand.tmp 11), (Operand.const (Value.int IntKind.i64 0)), (Operand.const (Value.int IntKind.i64 11))], argTypes := #[3, 3, 3] } 96 #[nt ((i : Nat) : Int), nt 0, nt 11] (some 12) (vIn_spec ((i : Nat) : Int) 0 11 _) ?_
 rintro _ w ⟨rfl, rfl⟩
 refine ⟨_, rfl, ?_⟩
 refine Os 8 [(0, pt v), (1, nt ((i : Nat) : Int)), (2, nt t), (15, .bool (!(decide ((0 : Int) ≤ ((i : Nat) : Int) ∧ ((i : Nat) : Int) ≤ 11))))] ?_
 refine OI_eq [(0, pt v), (1, nt ((i : Nat) : Int)), (2, nt t), (15, .bool false)] (by rw [decide_eq_true (by omega : (0 : Int) ≤ ((i : Nat) : Int) ∧ ((i : Nat) : Int) ≤ 11)]; rfl) ?_
 refine Os 9 [(0, pt v), (1, nt ((i : Nat) : Int)), (2, nt t), (15, .bool false), (16, nt t)] ?_
 refine Ok { callee := (Callee.value (Operand.func 97)), args := #[(Operand.tmp 16)], argTypes := #[3] } 97 #[nt t] (some 17) (isTrk_spec t _) ?_
 rintro _ w ⟨rfl, rfl⟩
 refine ⟨_, rfl, ?_⟩
 refine Os 13 [(0, pt v), (1, nt ((i : Nat) : Int)), (2, nt t), (7, .bool (!(decide (0 ≤ t ∧ t ≤ 3))))] ?_
 refine Oe ?_
 refine V_eq [(0, pt v), (1, nt ((i : Nat) : Int)), (2, nt t), (7, .bool false)] (by rw [decide_eq_true (by omega : 0 ≤ t ∧ t ≤ 3)]; rfl) ?_
 refine V_false rfl ?_
 refine Vr ?_
 refine Os 2 [(0, pt v), (1, nt ((i : Nat) : Int)), (2, nt t), (21, pt v), (22, nt ((i : Nat) : Int))] ?_
 refine Ok { callee := (Callee.value (Operand.func 64)), args := #[(Operand.tmp 21), (Operand.tmp 22)], argTypes := #[33, 3] } 64 #[pt v, nt ((i : Nat) : Int)] (some 23) (pollfn_at v gv gr i pp none _ hv hlen hi hx) ?_
 rintro _ w9 ⟨rfl, hk10⟩
 refine ⟨_, rfl, ?_⟩
 have hsz11 := Keep.size hk10
 replace hv := hv.keep hk10 (fun f => f)
 replace hK0 := Keep.tr hK0 (Keep.ofNone hk10)
 refine Os 5 [(0, pt v), (1, nt ((i : Nat) : Int)), (2, nt t), (20, .bool false)] ?_
 refine Oe ?_
 refine V_false rfl ?_
 refine V_skip ?_
 refine X_block ?_
 refine X_then ?_
 refine Vr ?_
 refine Os 4 [(25, pt v), (26, nt ((i : Nat) : Int)), (28, .agg #[nt t, nt 0, nt 0, nt 0, nt 0, nt 0])] ?_
 refine OI_box 133 (.tmp 28) (.agg #[nt t, nt 0, nt 0, nt 0, nt 0, nt 0]) [nt t, nt 0, nt 0, nt 0, nt 0, nt 0] (some 29) (by kernel_rfl) (by kernel_rfl) (by kernel_rfl) ?_
 intro b12 w12 e12 hb12 k12 z12
 have hsz13 := Keep.size k12
 replace hv := hv.keep k12 (fun f => f)
 replace hK0 := Keep.tr hK0 (Keep.ofNone k12)
 have hb12lt := hb12.lt
 refine Os 7 [(26, nt ((i : Nat) : Int)), (29, pt b12), (31, pt v)] ?_
 refine OI_pure (some 32) (.indexAddr 125 (.tmp 31) (.tmp 26)) (by kernel_rfl) (pure_idxArr (b := v) (o := 0) (m := 12) (kd := .i64) (j := i) (E := 124) (sz := 1) (by kernel_rfl) (by kernel_rfl) (by kernel_rfl) (by omega)) ?_
 refine OI_set (m := 1) (kd := false) 124 (.tmp 32) (.tmp 29) (0 + i * 1) (pt b12) [pt b12] none (by kernel_rfl) (by kernel_rfl) (by kernel_rfl) hv (by kernel_rfl) (by kernel_rfl) (by kernel_rfl) (by rw [List.length_append, List.length_map, hlen]; show 0 + i * 1 + 1 ≤ 14; omega) (by simp [Value.oneCell']) ?_
 intro w14 hv_17 hk15 hz16
 replace hv_17 : Blk w14 v ((pp.set i ((some ⟨b12, 0, none⟩))).map Value.pointer ++ [.pointer (some ⟨gv, 0, none⟩), .pointer (some ⟨gr, 0, none⟩)]) 127 := (by rw [over_pp (by omega)] at hv_17; exact hv_17)
 have hsz18 := Keep.size hk15
 replace hb12 := hb12.keep hk15 (by show ¬ (_ = _); omega)
 replace hK0 := Keep.fresh hK0 hk15 (by intro i hi hs; first | exact hs | exact Or.inl hs | exact Or.inr hs | (exfalso; have hs2 : i = v := hs; omega))
 refine Oer ?_
 refine Os 1 [(6, nt 0)] ?_
 refine Oe ?_
 refine V_ret ?_
 exact X_return (nt 0) rfl ⟨b12, rfl, by omega, hb12, hv_17, hK0⟩

/-- The voting at v, wherever its parts lie. -/
def VotE (F : Nat → Prop) (w : World) (v : Nat) (s : VS) : Prop := ∃ P, Vot F w v P s
theorem VotE.lt {F : Nat → Prop} {w : World} {v : Nat} {s : VS} (h : VotE F w v s) : ∀ q, F q → q < w.heap.size := by obtain ⟨P, h⟩ := h; exact h.lt
theorem VotE.at_ {F : Nat → Prop} {w : World} {v : Nat} {s : VS} (h : VotE F w v s) : F v := by obtain ⟨P, h⟩ := h; exact h.at_
theorem VotE.inv {F : Nat → Prop} {w : World} {v : Nat} {s : VS} (h : VotE F w v s) : s.Inv := by obtain ⟨P, h⟩ := h; exact h.inv
theorem VotE.keep {S F : Nat → Prop} {w w' : World} {v : Nat} {s : VS} (h : VotE F w v s) (k : Keep S w w') (hS : ∀ q, F q → ¬ S q) : VotE F w' v s := by obtain ⟨P, h⟩ := h; exact ⟨P, h.keep k hS⟩
theorem VotE.quiet {N : Nat} {F : Nat → Prop} {w w' : World} {v : Nat} {s : VS} (h : VotE F w v s) (k : Keep (lb N w) w w') : VotE F w' v s := by obtain ⟨P, h⟩ := h; exact ⟨P, h.quiet k⟩
theorem VotE.same {F : Nat → Prop} {w w' : World} {v : Nat} {s : VS} (h : VotE F w v s) (k : Keep none_ w w') : (∃ F', VotE F' w' v s ∧ (∀ q, F' q → F q ∨ w.heap.size ≤ q)) ∧ Keep F w w' := ⟨⟨F, h.keep k (fun _ _ f => f), fun _ h => .inl h⟩, k.ofNone⟩

theorem open_spec (F : Nat → Prop) (v : Nat) (s : VS) (ref t : Int) (w : World) (h : VotE F w v s) : Calls Tryz.prog 44 #[.pointer (some ⟨v, 0, none⟩), .int .i64 ref, .int .i64 t] w fun e w' => e = .returned (.int .i64 (openE s ref t)) ∧ (∃ F', VotE F' w' v (openS s ref t) ∧ (∀ q, F' q → F q ∨ w.heap.size ≤ q)) ∧ Keep F w w' := by
  by_cases hr : ¬ (0 ≤ ref ∧ ref < 12) ∨ ¬ (0 ≤ t ∧ t < 4)
  · have he : openE s ref t = 1 := by unfold openE; rw [if_pos hr]
    have hs : openS s ref t = s := by unfold openS; rw [he, if_neg (by decide)]
    rw [he, hs]
    refine (open_bad v ref t w hr).mono ?_
    rintro e w' ⟨rfl, hk⟩
    exact ⟨rfl, h.same hk⟩
  · obtain ⟨P, hP⟩ := h
    have hr2 : (0 ≤ ref ∧ ref < 12) ∧ (0 ≤ t ∧ t < 4) := by omega
    rcases hP.pollcase ref with ⟨hn, hc⟩ | ⟨i, b, q, rfl, hi, e1, e2, hs⟩
    · rcases hc with hc | ⟨i, rfl, hi, e1⟩
      · exact absurd hr2.1 hc
      have he : openE s (i : Int) t = 0 := by unfold openE; rw [if_neg hr, hn]; rfl
      have hs : openS s (i : Int) t = s.setP i ⟨t, Tly.zero, 0, 0⟩ := by unfold openS; rw [he, if_pos rfl, Int.toNat_natCast]
      rw [he, hs]
      refine (open_new v P.gv P.gr i P.pp t w hP.vblk.2 hP.vblk.1 hi e1 hr2.2).mono ?_
      rintro e w' ⟨b, rfl, hge, hb, hv, hk⟩
      obtain ⟨F', hF, hfr⟩ := hP.addPoll hi e1 hk hv hb hge
      exact ⟨rfl, ⟨F', ⟨_, hF⟩, hfr⟩, hk.mono (fun q _ hq => by rw [show q = v from hq]; exact hP.at_)⟩
    · have he : openE s (i : Int) t = 5 := by unfold openE; rw [if_neg hr, hs]; rfl
      have hs : openS s (i : Int) t = s := by unfold openS; rw [he, if_neg (by decide)]
      rw [he, hs]
      refine (open_has v P.gv P.gr i P.pp b t w hP.vblk.2 hP.vblk.1 hi e1 hr2.2).mono ?_
      rintro e w' ⟨rfl, hk⟩
      exact ⟨rfl, VotE.same ⟨P, hP⟩ hk⟩

set_option maxRecDepth 10000 in
theorem close_out (v : Nat) (ref st en : Int) (w : World) (hr : ¬ (0 ≤ ref ∧ ref < 12)) : Calls Tryz.prog 42 #[.pointer (some ⟨v, 0, none⟩), .int .i64 ref, .int .i64 st, .int .i64 en] w fun e w' => e = .returned (.int .i64 4) ∧ Keep none_ w w' := by
 have hK0 : Keep none_ w w := Keep.refl _ _
 have hzhK0 := Keep.size hK0
 refine enterV Tryz.func42 rfl [pt v, nt ref, nt st, nt en] 37 rfl rfl rfl ?_
 refine V_pick [(0, pt v), (1, nt ref), (2, nt st), (3, nt en)] rfl ?_
 refine Vr ?_
 refine Os 1 [(0, pt v), (1, nt ref), (2, nt st), (3, nt en)] ?_
 refine Oer ?_
 refine Os 2 [(0, pt v), (2, nt st), (3, nt en), (10, pt v), (11, nt ref)] ?_
 refine Ok { callee := (Callee.value (Operand.func 64)), args := #[(Operand.tmp 10), (Operand.tmp 11)], argTypes := #[33, 3] } 64 #[pt v, nt ref] (some 12) (pollfn_out v ref _ hr) ?_
 rintro _ w1 ⟨rfl, hk2⟩
 refine ⟨_, rfl, ?_⟩
 have hsz3 := Keep.size hk2
 replace hK0 := Keep.tr hK0 (Keep.ofNone hk2)
 refine Os 4 [(0, pt v), (2, nt st), (3, nt en), (9, .pointer none)] ?_
 refine Oe ?_
 refine V_seq ?_
 refine V_block ?_
 refine Vr ?_
 refine Os 3 [(2, nt st), (3, nt en), (9, .pointer none), (13, .bool false)] ?_
 refine Oe ?_
 refine V_false rfl ?_
 refine Vr ?_
 refine Os 3 [(2, nt st), (3, nt en), (9, .pointer none), (16, .bool true)] ?_
 refine Oe ?_
 refine V_true rfl ?_
 refine Vr ?_
 refine Os 1 [(8, nt 4)] ?_
 refine Oe ?_
 refine V_ret ?_
 refine X_ret_block ?_
 refine X_ret_then ?_
 exact X_return (nt 4) rfl ⟨rfl, hK0⟩

set_option maxRecDepth 10000 in
theorem close_none (v gv gr i : Nat) (pp : List (Option Addr)) (st en : Int) (w : World) (hv : Blk w v (pp.map Value.pointer ++ [.pointer (some ⟨gv, 0, none⟩), .pointer (some ⟨gr, 0, none⟩)]) 127) (hlen : pp.length = 12) (hi : i < 12) (hx : pp[i]? = some none) : Calls Tryz.prog 42 #[.pointer (some ⟨v, 0, none⟩), .int .i64 (i : Int), .int .i64 st, .int .i64 en] w fun e w' => e = .returned (.int .i64 4) ∧ Keep none_ w w' := by
 have hK0 : Keep none_ w w := Keep.refl _ _
 have hzhK0 := Keep.size hK0
 refine enterV Tryz.func42 rfl [pt v, nt ((i : Nat) : Int), nt st, nt en] 37 rfl rfl rfl ?_
 refine V_pick [(0, pt v), (1, nt ((i : Nat) : Int)), (2, nt st), (3, nt en)] rfl ?_
 refine Vr ?_
 refine Os 1 [(0, pt v), (1, nt ((i : Nat) : Int)), (2, nt st), (3, nt en)] ?_
 refine Oer ?_
 refine Os 2 [(0, pt v), (2, nt st), (3, nt en), (10, pt v), (11, nt ((i : Nat) : Int))] ?_
 refine Ok { callee := (Callee.value (Operand.func 64)), args := #[(Operand.tmp 10), (Operand.tmp 11)], argTypes := #[33, 3] } 64 #[pt v, nt ((i : Nat) : Int)] (some 12) (pollfn_at v gv gr i pp none _ hv hlen hi hx) ?_
 rintro _ w1 ⟨rfl, hk2⟩
 refine ⟨_, rfl, ?_⟩
 have hsz3 := Keep.size hk2
 replace hv := hv.keep hk2 (fun f => f)
 replace hK0 := Keep.tr hK0 (Keep.ofNone hk2)
 refine Os 4 [(0, pt v), (2, nt st), (3, nt en), (9, .pointer none)] ?_
 refine Oe ?_
 refine V_seq ?_
 refine V_block ?_
 refine Vr ?_
 refine Os 3 [(2, nt st), (3, nt en), (9, .pointer none), (13, .bool false)] ?_
 refine Oe ?_
 refine V_false rfl ?_
 refine Vr ?_
 refine Os 3 [(2, nt st), (3, nt en), (9, .pointer none), (16, .bool true)] ?_
 refine Oe ?_
 refine V_true rfl ?_
 refine Vr ?_
 refine Os 1 [(8, nt 4)] ?_
 refine Oe ?_
 refine V_ret ?_
 refine X_ret_block ?_
 refine X_ret_then ?_
 exact X_return (nt 4) rfl ⟨rfl, hK0⟩

set_option maxRecDepth 10000 in
theorem close_bad (v gv gr i : Nat) (pp : List (Option Addr)) (b : Nat) (q : PollS) (st en : Int) (w : World) (hv : Blk w v (pp.map Value.pointer ++ [.pointer (some ⟨gv, 0, none⟩), .pointer (some ⟨gr, 0, none⟩)]) 127) (hlen : pp.length = 12) (hi : i < 12) (hx : pp[i]? = some (some ⟨b, 0, none⟩)) (hb : Blk w b q.cells 133) (hq : q.state ≠ 0 ∨ ¬ (2 ≤ st ∧ st ≤ 6)) : Calls Tryz.prog 42 #[.pointer (some ⟨v, 0, none⟩), .int .i64 (i : Int), .int .i64 st, .int .i64 en] w fun e w' => e = .returned (.int .i64 (if q.state ≠ 0 then 9 else 1)) ∧ Keep none_ w w' := by
 have hvlt := hv.lt
 have hblt := hb.lt
 have hK0 : Keep none_ w w := Keep.refl _ _
 have hzhK0 := Keep.size hK0
 refine enterV Tryz.func42 rfl [pt v, nt ((i : Nat) : Int), nt st, nt en] 37 rfl rfl rfl ?_
 refine V_pick [(0, pt v), (1, nt ((i : Nat) : Int)), (2, nt st), (3, nt en)] rfl ?_
 refine Vr ?_
 refine Os 1 [(0, pt v), (1, nt ((i : Nat) : Int)), (2, nt st), (3, nt en)] ?_
 refine Oer ?_
 refine Os 2 [(0, pt v), (2, nt st), (3, nt en), (10, pt v), (11, nt ((i : Nat) : Int))] ?_
 refine Ok { callee := (Callee.value (Operand.func 64)), args := #[(Operand.tmp 10), (Operand.tmp 11)], argTypes := #[33, 3] } 64 #[pt v, nt ((i : Nat) : Int)] (some 12) (pollfn_at v gv gr i pp (some ⟨b, 0, none⟩) _ hv hlen hi hx) ?_
 rintro _ w1 ⟨rfl, hk2⟩
 refine ⟨_, rfl, ?_⟩
 have hsz3 := Keep.size hk2
 replace hv := hv.keep hk2 (fun f => f)
 replace hb := hb.keep hk2 (fun f => f)
 replace hK0 := Keep.tr hK0 (Keep.ofNone hk2)
 refine Os 4 [(0, pt v), (2, nt st), (3, nt en), (9, pt b)] ?_
 refine Oe ?_
 refine V_seq ?_
 refine V_block ?_
 refine Vr ?_
 refine Os 3 [(2, nt st), (3, nt en), (9, pt b), (13, .bool false)] ?_
 refine Oe ?_
 refine V_false rfl ?_
 refine Vr ?_
 refine Os 3 [(2, nt st), (3, nt en), (9, pt b), (16, .bool false)] ?_
 refine Oe ?_
 refine V_false rfl ?_
 refine Vr ?_
 refine Os 3 [(2, nt st), (3, nt en), (9, pt b), (22, .pointer (some ⟨b, 4, none⟩))] ?_
 refine Oc 3 (.tmp 22) 4 (nt q.state) (some 23) hb rfl ?_
 refine Os 6 [(2, nt st), (3, nt en), (9, pt b), (19, .bool (!(decide (q.state = 0))))] ?_
 refine Oe ?_
 refine V_not (q.state = 0) (by kernel_rfl) (fun hc4 => ?_) (fun hc4 => ?_)
 ·
  refine Vr ?_
  refine Os 1 [(8, nt 9)] ?_
  refine Oe ?_
  refine V_ret ?_
  refine X_ret_block ?_
  refine X_ret_then ?_
  exact X_return (nt 9) rfl ⟨by simp [*], hK0⟩
 refine Vr ?_
 refine Os 1 [(2, nt st), (3, nt en), (9, pt b), (26, nt st)] ?_
 refine Ok { callee := (Callee.value (Operand.func 96)), args := #[(Operand.tmp 26), (Operand.const (Value.int IntKind.i64 2)), (Operand.const (Value.int IntKind.i64 6))], argTypes := #[3, 3, 3] } 96 #[nt st, nt 2, nt 6] (some 27) (vIn_spec st 2 6 _) ?_
 rintro _ w1 ⟨rfl, rfl⟩
 refine ⟨_, rfl, ?_⟩
 refine Os 4 [(2, nt st), (3, nt en), (9, pt b), (25, .bool (!(decide ((2 : Int) ≤ st ∧ st ≤ 6))))] ?_
 refine Oe ?_
 refine V_not ((2 : Int) ≤ st ∧ st ≤ 6) (by kernel_rfl) (fun hc8 => ?_) (fun hc8 => ?_)
 ·
  refine Vr ?_
  refine Os 1 [(8, nt 1)] ?_
  refine Oe ?_
  refine V_ret ?_
  refine X_ret_block ?_
  refine X_ret_then ?_
  exact X_return (nt 1) rfl ⟨by simp [*], hK0⟩
 exact (by omega : False).elim

set_option maxRecDepth 10000 in
theorem close_ok (v gv gr i : Nat) (pp : List (Option Addr)) (b : Nat) (q : PollS) (st en : Int) (w : World) (hv : Blk w v (pp.map Value.pointer ++ [.pointer (some ⟨gv, 0, none⟩), .pointer (some ⟨gr, 0, none⟩)]) 127) (hlen : pp.length = 12) (hi : i < 12) (hx : pp[i]? = some (some ⟨b, 0, none⟩)) (hb : Blk w b q.cells 133) (hvb : v ≠ b) (hq : q.state = 0) (hs : 2 ≤ st ∧ st ≤ 6) : Calls Tryz.prog 42 #[.pointer (some ⟨v, 0, none⟩), .int .i64 (i : Int), .int .i64 st, .int .i64 en] w fun e w' => e = .returned (.int .i64 0) ∧ Blk w' b (PollS.cells { q with state := st, stop := en }) 133 ∧ Keep (only b) w w' := by
 have hvlt := hv.lt
 have hblt := hb.lt
 have hK0 : Keep (only b) w w := Keep.refl _ _
 have hzhK0 := Keep.size hK0
 refine enterV Tryz.func42 rfl [pt v, nt ((i : Nat) : Int), nt st, nt en] 37 rfl rfl rfl ?_
 refine V_pick [(0, pt v), (1, nt ((i : Nat) : Int)), (2, nt st), (3, nt en)] rfl ?_
 refine Vr ?_
 refine Os 1 [(0, pt v), (1, nt ((i : Nat) : Int)), (2, nt st), (3, nt en)] ?_
 refine Oer ?_
 refine Os 2 [(0, pt v), (2, nt st), (3, nt en), (10, pt v), (11, nt ((i : Nat) : Int))] ?_
 refine Ok { callee := (Callee.value (Operand.func 64)), args := #[(Operand.tmp 10), (Operand.tmp 11)], argTypes := #[33, 3] } 64 #[pt v, nt ((i : Nat) : Int)] (some 12) (pollfn_at v gv gr i pp (some ⟨b, 0, none⟩) _ hv hlen hi hx) ?_
 rintro _ w1 ⟨rfl, hk2⟩
 refine ⟨_, rfl, ?_⟩
 have hsz3 := Keep.size hk2
 replace hv := hv.keep hk2 (fun f => f)
 replace hb := hb.keep hk2 (fun f => f)
 replace hK0 := Keep.tr hK0 (Keep.ofNone hk2)
 refine Os 4 [(0, pt v), (2, nt st), (3, nt en), (9, pt b)] ?_
 refine Oe ?_
 refine V_seq ?_
 refine V_block ?_
 refine Vr ?_
 refine Os 3 [(2, nt st), (3, nt en), (9, pt b), (13, .bool false)] ?_
 refine Oe ?_
 refine V_false rfl ?_
 refine Vr ?_
 refine Os 3 [(2, nt st), (3, nt en), (9, pt b), (16, .bool false)] ?_
 refine Oe ?_
 refine V_false rfl ?_
 refine Vr ?_
 refine Os 3 [(2, nt st), (3, nt en), (9, pt b), (22, .pointer (some ⟨b, 4, none⟩))] ?_
 refine Oc 3 (.tmp 22) 4 (nt q.state) (some 23) hb rfl ?_
 refine Os 6 [(2, nt st), (3, nt en), (9, pt b), (19, .bool (!(decide (q.state = 0))))] ?_
 refine Oe ?_
 refine V_eq [(2, nt st), (3, nt en), (9, pt b), (19, .bool false)] (by rw [decide_eq_true (by omega : q.state = 0)]; rfl) ?_
 refine V_false rfl ?_
 refine Vr ?_
 refine Os 1 [(2, nt st), (3, nt en), (9, pt b), (26, nt st)] ?_
 refine Ok { callee := (Callee.value (Operand.func 96)), args := #[(Operand.tmp 26), (Operand.const (Value.int IntKind.i64 2)), (Operand.const (Value.int IntKind.i64 6))], argTypes := #[3, 3, 3] } 96 #[nt st, nt 2, nt 6] (some 27) (vIn_spec st 2 6 _) ?_
 rintro _ w1 ⟨rfl, rfl⟩
 refine ⟨_, rfl, ?_⟩
 refine Os 4 [(2, nt st), (3, nt en), (9, pt b), (25, .bool (!(decide ((2 : Int) ≤ st ∧ st ≤ 6))))] ?_
 refine Oe ?_
 refine V_eq [(2, nt st), (3, nt en), (9, pt b), (25, .bool false)] (by rw [decide_eq_true (by omega : (2 : Int) ≤ st ∧ st ≤ 6)]; rfl) ?_
 refine V_false rfl ?_
 refine V_skip ?_
 refine X_block ?_
 refine X_then ?_
 refine Vr ?_
 refine Os 6 [(30, pt b), (31, nt st), (32, nt en), (34, .pointer (some ⟨b, 4, none⟩))] ?_
 refine OI_set (m := 1) (kd := false) 3 (.tmp 34) (.tmp 31) 4 (nt st) [nt st] none (by kernel_rfl) (by kernel_rfl) (by kernel_rfl) hb (by kernel_rfl) (by kernel_rfl) (by kernel_rfl) (Nat.le_of_ble_eq_true (by kernel_rfl)) (by simp [Value.oneCell']) ?_
 intro w9 hb_12 hk10 hz11
 replace hb_12 : Blk w9 b [nt q.track, nt q.t.a, nt q.t.n, nt q.t.s, nt st, nt q.stop] 133 := hb_12
 have hsz13 := Keep.size hk10
 replace hv := hv.keep hk10 (by show ¬ (_ = _); omega)
 replace hK0 := Keep.fresh hK0 hk10 (by intro i hi hs; first | exact hs | exact Or.inl hs | exact Or.inr hs | (exfalso; have hs2 : i = b := hs; omega))
 refine Os 9 [(32, nt en), (36, .pointer (some ⟨b, 5, none⟩))] ?_
 refine OI_set (m := 1) (kd := false) 3 (.tmp 36) (.tmp 32) 5 (nt en) [nt en] none (by kernel_rfl) (by kernel_rfl) (by kernel_rfl) hb_12 (by kernel_rfl) (by kernel_rfl) (by kernel_rfl) (Nat.le_of_ble_eq_true (by kernel_rfl)) (by simp [Value.oneCell']) ?_
 intro w14 hb_17 hk15 hz16
 replace hb_17 : Blk w14 b [nt q.track, nt q.t.a, nt q.t.n, nt q.t.s, nt st, nt en] 133 := hb_17
 have hsz18 := Keep.size hk15
 replace hv := hv.keep hk15 (by show ¬ (_ = _); omega)
 replace hK0 := Keep.fresh hK0 hk15 (by intro i hi hs; first | exact hs | exact Or.inl hs | exact Or.inr hs | (exfalso; have hs2 : i = b := hs; omega))
 refine Oer ?_
 refine Os 1 [(8, nt 0)] ?_
 refine Oe ?_
 refine V_ret ?_
 exact X_return (nt 0) rfl ⟨rfl, hb_17, hK0⟩

theorem close_spec (F : Nat → Prop) (v : Nat) (s : VS) (ref st en : Int) (w : World) (h : VotE F w v s) : Calls Tryz.prog 42 #[.pointer (some ⟨v, 0, none⟩), .int .i64 ref, .int .i64 st, .int .i64 en] w fun e w' => e = .returned (.int .i64 (closeE s ref st)) ∧ (∃ F', VotE F' w' v (closeS s ref st en) ∧ (∀ q, F' q → F q ∨ w.heap.size ≤ q)) ∧ Keep F w w' := by
  obtain ⟨P, hP⟩ := h
  rcases hP.pollcase ref with ⟨hn, hc⟩ | ⟨i, b, q, rfl, hi, e1, e2, hs⟩
  · have he : closeE s ref st = 4 := by unfold closeE; rw [hn]
    have hs : closeS s ref st en = s := by unfold closeS; rw [hn]
    rw [he, hs]
    rcases hc with hc | ⟨i, rfl, hi, e1⟩
    · refine (close_out v ref st en w hc).mono ?_
      rintro e w' ⟨rfl, hk⟩
      exact ⟨rfl, VotE.same ⟨P, hP⟩ hk⟩
    · refine (close_none v P.gv P.gr i P.pp st en w hP.vblk.2 hP.vblk.1 hi e1).mono ?_
      rintro e w' ⟨rfl, hk⟩
      exact ⟨rfl, VotE.same ⟨P, hP⟩ hk⟩
  · obtain ⟨hb, hF⟩ := hP.pollB e1 e2
    by_cases hq : q.state ≠ 0 ∨ ¬ (2 ≤ st ∧ st ≤ 6)
    · have he : closeE s (i : Int) st = if q.state ≠ 0 then 9 else 1 := by
        unfold closeE; rw [hs]; dsimp only
        by_cases h9 : q.state ≠ 0
        · rw [if_pos h9, if_pos h9]
        · rw [if_neg h9, if_neg h9, if_pos (hq.resolve_left h9)]
      have hs2 : closeS s (i : Int) st en = s := by
        unfold closeS; rw [hs, he]; dsimp only
        rw [if_neg]; split <;> decide
      rw [he, hs2]
      refine (close_bad v P.gv P.gr i P.pp b q st en w hP.vblk.2 hP.vblk.1 hi e1 hb hq).mono ?_
      rintro e w' ⟨rfl, hk⟩
      exact ⟨rfl, VotE.same ⟨P, hP⟩ hk⟩
    · have hq2 : q.state = 0 ∧ (2 ≤ st ∧ st ≤ 6) := by omega
      have he : closeE s (i : Int) st = 0 := by unfold closeE; rw [hs]; dsimp only; rw [if_neg (by omega), if_neg (by omega)]
      have hs2 : closeS s (i : Int) st en = s.setP i { q with state := st, stop := en } := by unfold closeS; rw [hs, he]; dsimp only; rw [if_pos rfl, Int.toNat_natCast]
      rw [he, hs2]
      refine (close_ok v P.gv P.gr i P.pp b q st en w hP.vblk.2 hP.vblk.1 hi e1 hb (Blk.ne hP.vblk.2 hb (by decide)) hq2.1 hq2.2).mono ?_
      rintro e w' ⟨rfl, hb', hk⟩
      exact ⟨rfl, ⟨F, ⟨P, hP.setPoll e1 e2 hk hb'⟩, fun _ h => .inl h⟩, hk.mono (fun x _ hx => by rw [show x = b from hx]; exact hF)⟩

set_option maxRecDepth 10000 in
theorem tally_out (v : Nat) (ref : Int) (w : World) (hr : ¬ (0 ≤ ref ∧ ref < 12)) : Calls Tryz.prog 32 #[.pointer (some ⟨v, 0, none⟩), .int .i64 ref] w fun e w' => e = .returned (.agg (Tly.cells Tly.zero).toArray) ∧ Keep none_ w w' := by
 have hK0 : Keep none_ w w := Keep.refl _ _
 have hzhK0 := Keep.size hK0
 refine enterM Tryz.func32 rfl [pt v, nt ref] 16 rfl rfl rfl ?_
 refine V_pick [(0, pt v), (1, nt ref)] rfl ?_
 refine Vr ?_
 refine OI_alloc 55 (.agg #[nt 0, nt 0, nt 0]) [nt 0, nt 0, nt 0] (some 4) (by kernel_rfl) (by kernel_rfl) (by kernel_rfl) ?_
 intro b1 w1 e1 hb1 k1 z1
 have hsz2 := Keep.size k1
 replace hK0 := Keep.tr hK0 (Keep.ofNone k1)
 have hb1lt := hb1.lt
 refine Oer ?_
 refine Os 2 [(4, pt b1), (6, pt v), (7, nt ref)] ?_
 refine Ok { callee := (Callee.value (Operand.func 64)), args := #[(Operand.tmp 6), (Operand.tmp 7)], argTypes := #[33, 3] } 64 #[pt v, nt ref] (some 8) (pollfn_out v ref _ hr) ?_
 rintro _ w3 ⟨rfl, hk4⟩
 refine ⟨_, rfl, ?_⟩
 have hsz5 := Keep.size hk4
 replace hb1 := hb1.keep hk4 (fun f => f)
 replace hK0 := Keep.tr hK0 (Keep.ofNone hk4)
 refine Os 4 [(4, pt b1), (5, .pointer none)] ?_
 refine Oe ?_
 refine V_seq ?_
 refine Vr ?_
 refine Os 2 [(4, pt b1), (5, .pointer none), (10, .bool true)] ?_
 refine Oe ?_
 refine V_true rfl ?_
 refine Vr ?_
 refine Os 1 [(4, pt b1), (11, .agg #[nt 0, nt 0, nt 0])] ?_
 refine OI_set (m := 3) (kd := true) 55 (.tmp 4) (.tmp 11) 0 (.agg #[nt 0, nt 0, nt 0]) [nt 0, nt 0, nt 0] none (by kernel_rfl) (by kernel_rfl) (by kernel_rfl) hb1 (by kernel_rfl) (by kernel_rfl) (by kernel_rfl) (Nat.le_of_ble_eq_true (by kernel_rfl)) (by simp [Value.oneCell']) ?_
 intro w6 hb1_9 hk7 hz8
 replace hb1_9 : Blk w6 b1 [nt 0, nt 0, nt 0] 55 := hb1_9
 have hsz10 := Keep.size hk7
 replace hK0 := Keep.fresh hK0 hk7 (by intro i hi hs; first | exact hs | exact Or.inl hs | exact Or.inr hs | (exfalso; have hs2 : i = b1 := hs; omega))
 refine Oe ?_
 refine V_ret ?_
 refine X_ret_then ?_
 exact leave0 (.agg [nt 0, nt 0, nt 0].toArray) (.inl rfl) (res_agg1 (m := 3) rfl rfl (by kernel_rfl) hb1_9 rfl) ⟨rfl, hK0⟩

set_option maxRecDepth 10000 in
theorem tally_none (v gv gr i : Nat) (pp : List (Option Addr)) (w : World) (hv : Blk w v (pp.map Value.pointer ++ [.pointer (some ⟨gv, 0, none⟩), .pointer (some ⟨gr, 0, none⟩)]) 127) (hlen : pp.length = 12) (hi : i < 12) (hx : pp[i]? = some none) : Calls Tryz.prog 32 #[.pointer (some ⟨v, 0, none⟩), .int .i64 (i : Int)] w fun e w' => e = .returned (.agg (Tly.cells Tly.zero).toArray) ∧ Keep none_ w w' := by
 have hvlt := hv.lt
 have hK0 : Keep none_ w w := Keep.refl _ _
 have hzhK0 := Keep.size hK0
 refine enterM Tryz.func32 rfl [pt v, nt ((i : Nat) : Int)] 16 rfl rfl rfl ?_
 refine V_pick [(0, pt v), (1, nt ((i : Nat) : Int))] rfl ?_
 refine Vr ?_
 refine OI_alloc 55 (.agg #[nt 0, nt 0, nt 0]) [nt 0, nt 0, nt 0] (some 4) (by kernel_rfl) (by kernel_rfl) (by kernel_rfl) ?_
 intro b1 w1 e1 hb1 k1 z1
 have hsz2 := Keep.size k1
 replace hv := hv.keep k1 (fun f => f)
 replace hK0 := Keep.tr hK0 (Keep.ofNone k1)
 have hb1lt := hb1.lt
 refine Oer ?_
 refine Os 2 [(4, pt b1), (6, pt v), (7, nt ((i : Nat) : Int))] ?_
 refine Ok { callee := (Callee.value (Operand.func 64)), args := #[(Operand.tmp 6), (Operand.tmp 7)], argTypes := #[33, 3] } 64 #[pt v, nt ((i : Nat) : Int)] (some 8) (pollfn_at v gv gr i pp none _ hv hlen hi hx) ?_
 rintro _ w3 ⟨rfl, hk4⟩
 refine ⟨_, rfl, ?_⟩
 have hsz5 := Keep.size hk4
 replace hv := hv.keep hk4 (fun f => f)
 replace hb1 := hb1.keep hk4 (fun f => f)
 replace hK0 := Keep.tr hK0 (Keep.ofNone hk4)
 refine Os 4 [(4, pt b1), (5, .pointer none)] ?_
 refine Oe ?_
 refine V_seq ?_
 refine Vr ?_
 refine Os 2 [(4, pt b1), (5, .pointer none), (10, .bool true)] ?_
 refine Oe ?_
 refine V_true rfl ?_
 refine Vr ?_
 refine Os 1 [(4, pt b1), (11, .agg #[nt 0, nt 0, nt 0])] ?_
 refine OI_set (m := 3) (kd := true) 55 (.tmp 4) (.tmp 11) 0 (.agg #[nt 0, nt 0, nt 0]) [nt 0, nt 0, nt 0] none (by kernel_rfl) (by kernel_rfl) (by kernel_rfl) hb1 (by kernel_rfl) (by kernel_rfl) (by kernel_rfl) (Nat.le_of_ble_eq_true (by kernel_rfl)) (by simp [Value.oneCell']) ?_
 intro w6 hb1_9 hk7 hz8
 replace hb1_9 : Blk w6 b1 [nt 0, nt 0, nt 0] 55 := hb1_9
 have hsz10 := Keep.size hk7
 replace hv := hv.keep hk7 (by show ¬ (_ = _); omega)
 replace hK0 := Keep.fresh hK0 hk7 (by intro i hi hs; first | exact hs | exact Or.inl hs | exact Or.inr hs | (exfalso; have hs2 : i = b1 := hs; omega))
 refine Oe ?_
 refine V_ret ?_
 refine X_ret_then ?_
 exact leave0 (.agg [nt 0, nt 0, nt 0].toArray) (.inl rfl) (res_agg1 (m := 3) rfl rfl (by kernel_rfl) hb1_9 rfl) ⟨rfl, hK0⟩

set_option maxRecDepth 10000 in
theorem tally_some (v gv gr i : Nat) (pp : List (Option Addr)) (b : Nat) (q : PollS) (w : World) (hv : Blk w v (pp.map Value.pointer ++ [.pointer (some ⟨gv, 0, none⟩), .pointer (some ⟨gr, 0, none⟩)]) 127) (hlen : pp.length = 12) (hi : i < 12) (hx : pp[i]? = some (some ⟨b, 0, none⟩)) (hb : Blk w b q.cells 133) : Calls Tryz.prog 32 #[.pointer (some ⟨v, 0, none⟩), .int .i64 (i : Int)] w fun e w' => e = .returned (.agg (Tly.cells q.t).toArray) ∧ Keep none_ w w' := by
 have hvlt := hv.lt
 have hblt := hb.lt
 have hK0 : Keep none_ w w := Keep.refl _ _
 have hzhK0 := Keep.size hK0
 refine enterM Tryz.func32 rfl [pt v, nt ((i : Nat) : Int)] 16 rfl rfl rfl ?_
 refine V_pick [(0, pt v), (1, nt ((i : Nat) : Int))] rfl ?_
 refine Vr ?_
 refine OI_alloc 55 (.agg #[nt 0, nt 0, nt 0]) [nt 0, nt 0, nt 0] (some 4) (by kernel_rfl) (by kernel_rfl) (by kernel_rfl) ?_
 intro b1 w1 e1 hb1 k1 z1
 have hsz2 := Keep.size k1
 replace hv := hv.keep k1 (fun f => f)
 replace hb := hb.keep k1 (fun f => f)
 replace hK0 := Keep.tr hK0 (Keep.ofNone k1)
 have hb1lt := hb1.lt
 refine Oer ?_
 refine Os 2 [(4, pt b1), (6, pt v), (7, nt ((i : Nat) : Int))] ?_
 refine Ok { callee := (Callee.value (Operand.func 64)), args := #[(Operand.tmp 6), (Operand.tmp 7)], argTypes := #[33, 3] } 64 #[pt v, nt ((i : Nat) : Int)] (some 8) (pollfn_at v gv gr i pp (some ⟨b, 0, none⟩) _ hv hlen hi hx) ?_
 rintro _ w3 ⟨rfl, hk4⟩
 refine ⟨_, rfl, ?_⟩
 have hsz5 := Keep.size hk4
 replace hv := hv.keep hk4 (fun f => f)
 replace hb := hb.keep hk4 (fun f => f)
 replace hb1 := hb1.keep hk4 (fun f => f)
 replace hK0 := Keep.tr hK0 (Keep.ofNone hk4)
 refine Os 4 [(4, pt b1), (5, pt b)] ?_
 refine Oe ?_
 refine V_seq ?_
 refine Vr ?_
 refine Os 2 [(4, pt b1), (5, pt b), (10, .bool false)] ?_
 refine Oe ?_
 refine V_false rfl ?_
 refine V_skip ?_
 refine X_then ?_
 refine Vr ?_
 refine Os 3 [(4, pt b1), (14, .pointer (some ⟨b, 1, none⟩))] ?_
 refine Oa 55 (.tmp 14) 1 [nt q.t.a, nt q.t.n, nt q.t.s] (some 15) 3 hb rfl rfl ?_
 refine OI_set (m := 3) (kd := true) 55 (.tmp 4) (.tmp 15) 0 (.agg #[nt q.t.a, nt q.t.n, nt q.t.s]) [nt q.t.a, nt q.t.n, nt q.t.s] none (by kernel_rfl) (by kernel_rfl) (by kernel_rfl) hb1 (by kernel_rfl) (by kernel_rfl) (by kernel_rfl) (Nat.le_of_ble_eq_true (by kernel_rfl)) (by simp [Value.oneCell']) ?_
 intro w6 hb1_9 hk7 hz8
 replace hb1_9 : Blk w6 b1 [nt q.t.a, nt q.t.n, nt q.t.s] 55 := hb1_9
 have hsz10 := Keep.size hk7
 replace hv := hv.keep hk7 (by show ¬ (_ = _); omega)
 replace hb := hb.keep hk7 (by show ¬ (_ = _); omega)
 replace hK0 := Keep.fresh hK0 hk7 (by intro i hi hs; first | exact hs | exact Or.inl hs | exact Or.inr hs | (exfalso; have hs2 : i = b1 := hs; omega))
 refine Oe ?_
 refine V_ret ?_
 exact leave0 (.agg [nt q.t.a, nt q.t.n, nt q.t.s].toArray) (.inl rfl) (res_agg1 (m := 3) rfl rfl (by kernel_rfl) hb1_9 rfl) ⟨rfl, hK0⟩

theorem tally_spec (F : Nat → Prop) (v : Nat) (s : VS) (ref : Int) (w : World) (h : VotE F w v s) : Calls Tryz.prog 32 #[.pointer (some ⟨v, 0, none⟩), .int .i64 ref] w fun e w' => e = .returned (.agg (Tly.cells (tallyT s ref)).toArray) ∧ Keep none_ w w' := by
  obtain ⟨P, hP⟩ := h
  rcases hP.pollcase ref with ⟨hn, hc⟩ | ⟨i, b, q, rfl, hi, e1, e2, hs⟩
  · rw [show tallyT s ref = Tly.zero by unfold tallyT; rw [hn]]
    rcases hc with hc | ⟨i, rfl, hi, e1⟩
    · exact tally_out v ref w hc
    · exact tally_none v P.gv P.gr i P.pp w hP.vblk.2 hP.vblk.1 hi e1
  · rw [show tallyT s (i : Int) = q.t by unfold tallyT; rw [hs]]
    exact tally_some v P.gv P.gr i P.pp b q w hP.vblk.2 hP.vblk.1 hi e1 (hP.pollB e1 e2).1

end Go.Al


namespace Go.Al
open Go Go.RowKit Go.Proofs
/-- Each poll has a track that is one. -/
def TrkOk (s : VS) : Prop := ∀ (i : Nat) q, s.ps[i]? = some (some q) → 0 ≤ q.track ∧ q.track < 4
end Go.Al


namespace Go.Al
open Go Go.RowKit Go.Proofs
def VS.zero : VS := ⟨List.replicate 12 none, [], fun _ _ => RecS.zero⟩
theorem Vot.new {F1 F2 : Nat → Prop} {w : World} {v gv gr : Nat} (h1 : GV.Grd F1 w gv []) (h2 : GR.Grd F2 w gr []) (hb : Blk w v ((List.replicate 12 none).map Value.pointer ++ [.pointer (some ⟨gv, 0, none⟩), .pointer (some ⟨gr, 0, none⟩)]) 127) (d12 : ∀ q, F1 q → ¬ F2 q) (n1 : ∀ q, F1 q → q ≠ v) (n2 : ∀ q, F2 q → q ≠ v) :
    Vot (fun q => F1 q ∨ F2 q ∨ q = v) w v ⟨gv, gr, List.replicate 12 none, []⟩ VS.zero := by
  refine ⟨F1, F2, fun q => q = v, ⟨⟨rfl, (fun c hc => by cases hc), (fun a t d hd => by cases hd)⟩, h1, h2, rfl, fun q hq => by rw [hq]; exact hb.lt, d12, n1, n2, rfl, hb, fun i hi => ?_, ?_, fun c hc => (by cases hc), fun a t => .inl ⟨rfl, rfl⟩, ?_⟩, fun _ h => .inl h, fun _ h => .inr (.inl h), fun _ h => .inr (.inr h), ?_⟩
  · left
    show (List.replicate 12 none)[i]? = some none ∧ (List.replicate 12 none)[i]? = some none
    rw [List.getElem?_replicate, List.getElem?_replicate, if_pos hi, if_pos hi]; exact ⟨rfl, rfl⟩
  · intro i j b hi
    have hi' : (List.replicate 12 (none : Option Addr))[i]? = some (some ⟨b, 0, none⟩) := hi
    rw [List.getElem?_replicate] at hi'
    split at hi' <;> cases hi'
  · intro a t a' t' q hq; cases hq
  · rintro q (h | h | rfl)
    · exact h1.lt q h
    · exact h2.lt q h
    · exact hb.lt
theorem TrkOk.zero : TrkOk VS.zero := by
  intro i q h
  have h' : (List.replicate 12 (none : Option PollS))[i]? = some (some q) := h
  rw [List.getElem?_replicate] at h'
  split at h' <;> cases h'
theorem TrkOk.setP {s : VS} (h : TrkOk s) {i : Nat} {q : PollS} (hq : 0 ≤ q.track ∧ q.track < 4) : TrkOk (s.setP i q) := by
  intro j q' e
  have e' : (s.ps.set i (some q))[j]? = some (some q') := e
  rw [List.getElem?_set] at e'
  split at e'
  · split at e'
    · simp only [Option.some.injEq] at e'; rw [← e']; exact hq
    · cases e'
  · exact h j q' e'
theorem TrkOk.poll {s : VS} (h : TrkOk s) {ref : Int} {q : PollS} (e : pollAt s ref = some q) : 0 ≤ q.track ∧ q.track < 4 := by
  unfold pollAt at e
  split at e
  · cases hg : s.ps[ref.toNat]? with
    | none => rw [hg] at e; cases e
    | some x => rw [hg] at e; exact h _ _ (by rw [hg]; exact congrArg some e)
  · cases e
theorem TrkOk.cs {s : VS} (h : TrkOk s) (c : List GV.Ci) : TrkOk { s with cs := c } := h
theorem TrkOk.openS {s : VS} (h : TrkOk s) (ref t : Int) : TrkOk (openS s ref t) := by
  unfold Al.openS
  split
  · rename_i he
    refine h.setP ?_
    show 0 ≤ t ∧ t < 4
    unfold openE at he
    split at he
    · cases he
    · omega
  · exact h
theorem TrkOk.closeS {s : VS} (h : TrkOk s) (ref st en : Int) : TrkOk (closeS s ref st en) := by
  unfold Al.closeS
  split
  · exact h
  · rename_i q hq
    split
    · exact h.setP (show 0 ≤ q.track ∧ q.track < 4 from h.poll hq)
    · exact h
/-- The voting at v. -/
def VotT (F : Nat → Prop) (w : World) (v : Nat) (s : VS) : Prop := VotE F w v s ∧ TrkOk s
section
variable {F S : Nat → Prop} {w w' : World} {v N : Nat} {s : VS}
theorem VotT.lt (h : VotT F w v s) : ∀ q, F q → q < w.heap.size := h.1.lt
theorem VotT.at_ (h : VotT F w v s) : F v := h.1.at_
theorem VotT.keep (h : VotT F w v s) (k : Keep S w w') (hS : ∀ q, F q → ¬ S q) : VotT F w' v s := ⟨h.1.keep k hS, h.2⟩
theorem VotT.quiet (h : VotT F w v s) (k : Keep (lb N w) w w') : VotT F w' v s := ⟨h.1.quiet k, h.2⟩
theorem VotT.inv (h : VotT F w v s) : s.Inv := h.1.inv
end

set_option maxRecDepth 10000 in
theorem new_votT (w : World) : Calls Tryz.prog 27 #[] w fun e w' => ∃ v F, e = .returned (.pointer (some ⟨v, 0, none⟩)) ∧ VotT F w' v VS.zero ∧ Keep none_ w w' ∧ (∀ q, F q → w.heap.size ≤ q) := by
 have hK0 : Keep none_ w w := Keep.refl _ _
 have hzhK0 := Keep.size hK0
 refine enterV Tryz.func27 rfl [] 5 rfl rfl rfl ?_
 refine V_pick [] rfl ?_
 refine Vr ?_
 refine Os 1 [] ?_
 refine Oer ?_
 refine Ok { callee := (Callee.value (Operand.func 57)), args := #[], argTypes := #[] } 57 #[] (some 1) (GV.new_grd _) ?_
 rintro _ w1 ⟨g3, F4, rfl, ho5, hk2, hge6⟩
 refine ⟨_, rfl, ?_⟩
 have hsz7 := Keep.size hk2
 replace hK0 := Keep.tr hK0 (Keep.ofNone hk2)
 have own8 : ∀ q, F4 q → w.heap.size ≤ q := fun q hq => by have h1 := hge6 q hq; omega
 have lt9 := GV.Grd.lt ho5
 have hg3lt : g3 < w1.heap.size := GV.Grd.lt ho5 _ (GV.Grd.at_ ho5)
 have hg3ge := hge6 _ (GV.Grd.at_ ho5)
 refine Ok { callee := (Callee.value (Operand.func 58)), args := #[], argTypes := #[] } 58 #[] (some 2) (GR.new_grd _) ?_
 rintro _ w10 ⟨g12, F13, rfl, ho14, hk11, hge15⟩
 refine ⟨_, rfl, ?_⟩
 have hsz16 := Keep.size hk11
 replace hK0 := Keep.tr hK0 (Keep.ofNone hk11)
 replace ho5 := GV.Grd.keep ho5 hk11 (fun _ _ f => f)
 have own17 : ∀ q, F13 q → w1.heap.size ≤ q := fun q hq => by have h1 := hge15 q hq; omega
 have lt18 := GR.Grd.lt ho14
 have dis19 : ∀ q, F13 q → ¬ F4 q := fun q h1 h2 => by have h3 := hge15 q h1; have h4 := lt9 q h2; omega
 have hg12lt : g12 < w10.heap.size := GR.Grd.lt ho14 _ (GR.Grd.at_ ho14)
 have hg12ge := hge15 _ (GR.Grd.at_ ho14)
 refine Os 3 [(3, .agg #[.pointer none, .pointer none, .pointer none, .pointer none, .pointer none, .pointer none, .pointer none, .pointer none, .pointer none, .pointer none, .pointer none, .pointer none, pt g3, pt g12])] ?_
 refine OI_box 127 (.tmp 3) (.agg #[.pointer none, .pointer none, .pointer none, .pointer none, .pointer none, .pointer none, .pointer none, .pointer none, .pointer none, .pointer none, .pointer none, .pointer none, pt g3, pt g12]) [.pointer none, .pointer none, .pointer none, .pointer none, .pointer none, .pointer none, .pointer none, .pointer none, .pointer none, .pointer none, .pointer none, .pointer none, pt g3, pt g12] (some 4) (by kernel_rfl) (by kernel_rfl) (by kernel_rfl) ?_
 intro b20 w20 e20 hb20 k20 z20
 have hsz21 := Keep.size k20
 replace hK0 := Keep.tr hK0 (Keep.ofNone k20)
 replace ho5 := GV.Grd.keep ho5 k20 (fun _ _ f => f)
 replace ho14 := GR.Grd.keep ho14 k20 (fun _ _ f => f)
 have hb20lt := hb20.lt
 refine Os 5 [(0, pt b20)] ?_
 refine Oe ?_
 refine V_ret ?_
 exact X_return _ rfl ⟨b20, _, rfl, ⟨⟨_, Vot.new (gv := g3) (gr := g12) ho5 ho14 hb20 (fun q h1 h2 => dis19 q h2 h1) (fun q hq => by have h1 := lt9 q hq; omega) (fun q hq => by have h1 := lt18 q hq; omega)⟩, TrkOk.zero⟩, hK0, fun q hq => by rcases hq with h | h | h; (have h1 := own8 q h; omega); (have h1 := own17 q h; omega); omega⟩

theorem open_specT (F : Nat → Prop) (v : Nat) (s : VS) (ref t : Int) (w : World) (h : VotT F w v s) : Calls Tryz.prog 44 #[.pointer (some ⟨v, 0, none⟩), .int .i64 ref, .int .i64 t] w fun e w' => e = .returned (.int .i64 (openE s ref t)) ∧ (∃ F', VotT F' w' v (openS s ref t) ∧ (∀ q, F' q → F q ∨ w.heap.size ≤ q)) ∧ Keep F w w' := by
  obtain ⟨h, ht⟩ := h
  refine (open_spec F v s ref t w h).mono ?_
  rintro e w' ⟨rfl, ⟨F', h1, h3⟩, hk⟩
  exact ⟨rfl, ⟨F', ⟨h1, ht.openS _ _⟩, h3⟩, hk⟩

theorem close_specT (F : Nat → Prop) (v : Nat) (s : VS) (ref st en : Int) (w : World) (h : VotT F w v s) : Calls Tryz.prog 42 #[.pointer (some ⟨v, 0, none⟩), .int .i64 ref, .int .i64 st, .int .i64 en] w fun e w' => e = .returned (.int .i64 (closeE s ref st)) ∧ (∃ F', VotT F' w' v (closeS s ref st en) ∧ (∀ q, F' q → F q ∨ w.heap.size ≤ q)) ∧ Keep F w w' := by
  obtain ⟨h, ht⟩ := h
  refine (close_spec F v s ref st en w h).mono ?_
  rintro e w' ⟨rfl, ⟨F', h1, h3⟩, hk⟩
  exact ⟨rfl, ⟨F', ⟨h1, ht.closeS _ _ _⟩, h3⟩, hk⟩
end Go.Al


namespace Go.Al
open Go Go.RowKit Go.Proofs
/-! ### Parts, curves, tracks -/
def heldI (n lo hi : Int) : Int := imin (imax n lo) hi
def ratioI (a b : Int) : Int := if b = 0 then 0 else imin (w64 (Int.tdiv (w64 (a * 1000000000)) b)) 1000000000
def fallsC (c : Crv) : Prop := (0 ≤ c.a ∧ c.a ≤ 1000000000) ∧ (0 ≤ c.b ∧ c.b ≤ c.a) ∧ (1 ≤ c.c ∧ c.c ≤ 1000000000)
instance (c : Crv) : Decidable (fallsC c) := by unfold fallsC; infer_instance
def okCrv (c : Crv) : Prop := (c.k = 1 ∧ fallsC c ∧ c.d = 0) ∨ (c.k = 2 ∧ fallsC c ∧ 1 ≤ c.d ∧ c.d ≤ 1000000000) ∨ (c.k = 3 ∧ (0 ≤ c.a ∧ c.a ≤ 1000000000) ∧ (0 ≤ c.c ∧ c.c ≤ 1000000000) ∧ (1 ≤ c.b ∧ c.b ≤ 1000000000) ∧ c.d = 0)
instance (c : Crv) : Decidable (okCrv c) := by unfold okCrv; infer_instance
def okTrk (t : Trk) : Prop := (1 ≤ t.most ∧ t.most ≤ 12) ∧ (0 ≤ t.deposit ∧ t.deposit ≤ 1073741824) ∧ (0 ≤ t.cap ∧ t.cap ≤ 1073741824) ∧ (0 ≤ t.prepare ∧ t.prepare ≤ 1000) ∧ (0 ≤ t.confirm ∧ t.confirm ≤ 1000) ∧ (0 ≤ t.enact ∧ t.enact ≤ 1000) ∧ (1 ≤ t.decision ∧ t.decision ≤ 1000) ∧ okCrv t.app ∧ okCrv t.sup ∧ (0 ≤ t.rank ∧ t.rank ≤ 2)
instance (t : Trk) : Decidable (okTrk t) := by unfold okTrk; infer_instance
def atI (c : Crv) (x : Int) : Int :=
  if c.k = 1 then (if heldI x 0 1000000000 ≥ c.c then c.b else w64 (c.a - w64 (Int.tdiv (w64 (w64 (c.a - c.b) * heldI x 0 1000000000)) c.c)))
  else if c.k = 2 then imax (w64 (c.a - w64 (w64 (Int.tdiv (heldI x 0 1000000000) c.d) * c.c))) c.b
  else if c.k = 3 then heldI (w64 (w64 (Int.tdiv (w64 (c.a * 1000000000)) (w64 (heldI x 0 1000000000 + c.b))) - c.c)) 0 1000000000 else 0
def apprI (t : Tly) : Int := ratioI t.a (w64 (t.a + t.n))
def passB (t : Trk) (y : Tly) (iss el : Int) : Bool := decide (apprI y ≥ atI t.app (ratioI (imin el t.decision) t.decision)) && decide (ratioI y.s iss ≥ atI t.sup (ratioI (imin el t.decision) t.decision))
/-! ### Referenda -/
def Trk.zero : Trk := ⟨0, 0, 0, 0, 0, 0, ⟨0, 0, 0, 0, 0⟩, ⟨0, 0, 0, 0, 0⟩, 0, 0⟩
def trkO (ts : List Trk) (i : Int) : Option Trk := if 0 ≤ i ∧ i < ts.length then ts[i.toNat]? else none
def trkA (ts : List Trk) (i : Int) : Trk := (trkO ts i).getD Trk.zero
def getR (rs : List Rfm) (i : Int) : Option Rfm := if 0 ≤ i ∧ i < rs.length then rs[i.toNat]? else none
def getA (rs : List Rfm) (i : Int) : Rfm := (getR rs i).getD Rfm.zero
def newR (of : Int) (sum : Nat → Int) (after now who : Int) : Rfm := ⟨1, of, sum, after, now, who, true, -1, -1, -1, 0, Tly.zero⟩
def subE (xs : List Acc) (cs : List Ci) (s : VS) (ts : List Trk) (rs : List Rfm) (who of after : Int) : Int :=
  if (trkO ts of).isNone ∨ who < 0 ∨ who ≥ 10 ∨ after < 0 ∨ after > 1000 then 1 else if rs.length ≥ 12 then 3 else if (pollAt s rs.length).isSome then 5 else spendsE xs cs who 10
def subX (xs : List Acc) (cs : List Ci) (s : VS) (ts : List Trk) (rs : List Rfm) (who of after : Int) : List Acc := if subE xs cs s ts rs who of after = 0 then resX xs cs who 10 else xs
def subS (xs : List Acc) (cs : List Ci) (s : VS) (ts : List Trk) (rs : List Rfm) (who of after : Int) : VS := if subE xs cs s ts rs who of after = 0 then openS s rs.length of else s
def subR (xs : List Acc) (cs : List Ci) (s : VS) (ts : List Trk) (rs : List Rfm) (who of after : Int) (sum : Nat → Int) (now : Int) : List Rfm := if subE xs cs s ts rs who of after = 0 then rs ++ [newR of sum after now who] else rs
def depE (xs : List Acc) (cs : List Ci) (ts : List Trk) (rs : List Rfm) (who ref : Int) : Int := match getR rs ref with
  | none => 4
  | some x => if x.state ≠ 1 then 9 else if x.backer ≠ -1 then 5 else spendsE xs cs who (trkA ts x.track).deposit
def depX (xs : List Acc) (cs : List Ci) (ts : List Trk) (rs : List Rfm) (who ref : Int) : List Acc := if depE xs cs ts rs who ref = 0 then resX xs cs who (trkA ts (getA rs ref).track).deposit else xs
def depR (xs : List Acc) (cs : List Ci) (ts : List Trk) (rs : List Rfm) (who ref : Int) : List Rfm := if depE xs cs ts rs who ref = 0 then rs.set ref.toNat { getA rs ref with backer := who } else rs
def endY (s : VS) (x : Rfm) (ref st now : Int) : Rfm := { x with state := st, stop := now, t := tallyT s ref }
def endR (s : VS) (rs : List Rfm) (ref st now : Int) : List Rfm := rs.set ref.toNat (endY s (getA rs ref) ref st now)
/-! ### A block -/
def waitB (ts : List Trk) (of now : Int) (x : Rfm) : Bool := !(decide (x.state ≠ 1) || decide (x.track ≠ of)) && decide (x.since = -1) && (decide (x.backer ≠ -1) && decide (w64 (now - x.sub) ≥ (trkA ts of).prepare))
def decB (of : Int) (x : Rfm) : Bool := !(decide (x.state ≠ 1) || decide (x.track ≠ of)) && decide (x.since ≠ -1)
def waitL (ts : List Trk) (of now : Int) : Nat → List Rfm → List Int
  | _, [] => []
  | i, x :: l => if waitB ts of now x = true then (i : Int) :: waitL ts of now (i + 1) l else waitL ts of now (i + 1) l
def decN (of : Int) : List Rfm → Int
  | [] => 0
  | x :: l => (if decB of x = true then 1 else 0) + decN of l
def sink (key : Int → Int) (x : Int) : List Int → List Int
  | [] => [x]
  | y :: l => if key x > key y then y :: sink key x l else x :: y :: l
def sortD (key : Int → Int) (l : List Int) : List Int := (l.foldl (fun acc x => sink key x acc) []).reverse
def begL (ts : List Trk) (s : VS) (rs : List Rfm) (of now : Int) : List Int :=
  (sortD (fun r => (tallyT s r).a) (waitL ts of now 0 rs)).take (imin ((waitL ts of now 0 rs).length : Int) (imax ((trkA ts of).most - decN of rs) 0)).toNat
def setN (now : Int) (rs : List Rfm) (ref : Int) : List Rfm := rs.set ref.toNat { getA rs ref with since := now }
def begR (ts : List Trk) (s : VS) (now : Int) (rs : List Rfm) (of : Int) : List Rfm := (begL ts s rs of now).foldl (setN now) rs
def begK (ts : List Trk) (s : VS) (now : Int) (rs : List Rfm) : Nat → List Rfm
  | 0 => rs
  | k + 1 => begR ts s now (begK ts s now rs k) (k : Int)
def tillI (ts : List Trk) (x : Rfm) (y : Tly) (iss now : Int) : Int := if passB (trkA ts x.track) y iss (w64 (now - x.since)) = false then -1 else if x.till = -1 then w64 (now + (trkA ts x.track).confirm) else x.till
def decY (ts : List Trk) (x : Rfm) (y : Tly) (iss now : Int) : Rfm := if x.since = -1 then x else { x with till := tillI ts x y iss now }
def decE (ts : List Trk) (x : Rfm) (y : Tly) (iss now : Int) : Int := if x.since = -1 then (if w64 (now - x.sub) ≥ 30 then 4 else 0) else
  if tillI ts x y iss now ≠ -1 ∧ tillI ts x y iss now ≤ now then 2 else if tillI ts x y iss now = -1 ∧ w64 (now - x.since) ≥ (trkA ts x.track).decision then 3 else 0
structure SvS where
  s : VS
  rs : List Rfm
  out : List Evt
def svcStep (ts : List Trk) (iss now : Int) (i : Int) (x : Rfm) (q : SvS) : SvS :=
  if x.state ≠ 1 then q else if decE ts x (tallyT q.s i) iss now = 0 then { q with rs := q.rs.set i.toNat (decY ts x (tallyT q.s i) iss now) }
  else ⟨closeS q.s i (decE ts x (tallyT q.s i) iss now) now, q.rs.set i.toNat (endY q.s (decY ts x (tallyT q.s i) iss now) i (decE ts x (tallyT q.s i) iss now) now), q.out ++ [Evt.mk 1 i (decE ts x (tallyT q.s i) iss now)]⟩
def svcK (ts : List Trk) (iss now : Int) (r0 : List Rfm) (q : SvS) : Nat → SvS
  | 0 => q
  | k + 1 => match r0[k]? with | none => svcK ts iss now r0 q k | some x => svcStep ts iss now k x (svcK ts iss now r0 q k)
def svcQ (ts : List Trk) (xs : List Acc) (s : VS) (rs : List Rfm) (now : Int) : SvS := svcK ts (tot xs) now (begK ts s now rs ts.length) ⟨s, begK ts s now rs ts.length, []⟩ rs.length
end Go.Al


namespace Go.Al
open Go Go.RowKit Go.Proofs
set_option maxRecDepth 10000 in
theorem pIn_spec (n lo hi : Int) (w : World) : Calls Tryz.prog 169 #[.int .i64 n, .int .i64 lo, .int .i64 hi] w fun e w' => e = .returned (.bool (decide (lo ≤ n ∧ n ≤ hi))) ∧ w' = w := by
 refine enterV Tryz.func169 rfl [nt n, nt lo, nt hi] 15 rfl rfl rfl ?_
 refine V_pick [(0, nt n), (1, nt lo), (2, nt hi)] rfl ?_
 refine Vr ?_
 refine Os 1 [(0, nt n), (1, nt lo), (2, nt hi)] ?_
 refine Oer ?_
 refine Os 4 [(0, nt n), (2, nt hi), (10, .bool (decide (n ≥ lo)))] ?_
 by_cases hg1 : n ≥ lo
 ·
  refine OI_eq [(0, nt n), (2, nt hi), (10, .bool true)] (by first | simp [hg1] | rfl) ?_
  refine Os 9 [(6, .bool (decide (n ≤ hi)))] ?_
  refine Oe ?_
  refine V_ret ?_
  exact X_return (.bool (decide (n ≤ hi))) rfl ⟨by congr 2; simp only [Bool.decide_and]; by_cases h1 : lo ≤ n <;> simp [h1] <;> omega, rfl⟩
 refine OI_eq [(0, nt n), (2, nt hi), (10, .bool false)] (by first | simp [hg1] | rfl) ?_
 refine Os 9 [(6, .bool false)] ?_
 refine Oe ?_
 refine V_ret ?_
 exact X_return (.bool false) rfl ⟨by congr 2; simp only [Bool.decide_and]; by_cases h1 : lo ≤ n <;> simp [h1] <;> omega, rfl⟩

set_option maxRecDepth 10000 in
theorem tIn_spec (n lo hi : Int) (w : World) : Calls Tryz.prog 120 #[.int .i64 n, .int .i64 lo, .int .i64 hi] w fun e w' => e = .returned (.bool (decide (lo ≤ n ∧ n ≤ hi))) ∧ w' = w := by
 refine enterV Tryz.func120 rfl [nt n, nt lo, nt hi] 15 rfl rfl rfl ?_
 refine V_pick [(0, nt n), (1, nt lo), (2, nt hi)] rfl ?_
 refine Vr ?_
 refine Os 1 [(0, nt n), (1, nt lo), (2, nt hi)] ?_
 refine Oer ?_
 refine Os 4 [(0, nt n), (2, nt hi), (10, .bool (decide (n ≥ lo)))] ?_
 by_cases hg1 : n ≥ lo
 ·
  refine OI_eq [(0, nt n), (2, nt hi), (10, .bool true)] (by first | simp [hg1] | rfl) ?_
  refine Os 9 [(6, .bool (decide (n ≤ hi)))] ?_
  refine Oe ?_
  refine V_ret ?_
  exact X_return (.bool (decide (n ≤ hi))) rfl ⟨by congr 2; simp only [Bool.decide_and]; by_cases h1 : lo ≤ n <;> simp [h1] <;> omega, rfl⟩
 refine OI_eq [(0, nt n), (2, nt hi), (10, .bool false)] (by first | simp [hg1] | rfl) ?_
 refine Os 9 [(6, .bool false)] ?_
 refine Oe ?_
 refine V_ret ?_
 exact X_return (.bool false) rfl ⟨by congr 2; simp only [Bool.decide_and]; by_cases h1 : lo ≤ n <;> simp [h1] <;> omega, rfl⟩

set_option maxRecDepth 10000 in
theorem pheld_spec (n lo hi : Int) (w : World) : Calls Tryz.prog 186 #[.int .i64 n, .int .i64 lo, .int .i64 hi] w fun e w' => e = .returned (.int .i64 (heldI n lo hi)) ∧ w' = w := by
 refine enterV Tryz.func186 rfl [nt n, nt lo, nt hi] 12 rfl rfl rfl ?_
 refine V_pick [(0, nt n), (1, nt lo), (2, nt hi)] rfl ?_
 refine Vr ?_
 refine Os 1 [(0, nt n), (1, nt lo), (2, nt hi)] ?_
 refine Oer ?_
 refine Os 6 [(6, nt (imin (imax n lo) hi))] ?_
 refine Oe ?_
 refine V_ret ?_
 exact X_return (nt (imin (imax n lo) hi)) rfl ⟨by unfold heldI; rfl, rfl⟩

set_option maxRecDepth 10000 in
theorem ratio_spec (a b : Int) (w : World) : Calls Tryz.prog 153 #[.int .i64 a, .int .i64 b] w fun e w' => e = .returned (.int .i64 (ratioI a b)) ∧ w' = w := by
 refine enterV Tryz.func153 rfl [nt a, nt b] 12 rfl rfl rfl ?_
 refine V_pick [(0, nt a), (1, nt b)] rfl ?_
 refine Vr ?_
 refine Os 1 [(0, nt a), (1, nt b)] ?_
 refine Oe ?_
 refine V_seq ?_
 refine Vr ?_
 refine Os 2 [(0, nt a), (1, nt b), (6, .bool (decide (b = 0)))] ?_
 refine Oe ?_
 refine V_if (b = 0) (by kernel_rfl) (fun hc1 => ?_) (fun hc1 => ?_)
 ·
  refine Vr ?_
  refine Os 1 [(4, nt 0)] ?_
  refine Oe ?_
  refine V_ret ?_
  refine X_ret_then ?_
  exact X_return (nt 0) rfl ⟨by unfold ratioI; rw [if_pos hc1], rfl⟩
 refine V_skip ?_
 refine X_then ?_
 refine Vr ?_
 refine Os 3 [(8, nt (IntKind.i64.wrap (a * 1000000000))), (9, nt b)] ?_
 refine OI_pure (some 10) ((Op.binOp BinOp.quo 3 (Operand.tmp 8) (Operand.tmp 9) 3)) (by kernel_rfl) (pure_quo (k := .i64) (a := IntKind.i64.wrap (a * 1000000000)) (b := b) (by kernel_rfl) (by kernel_rfl) hc1) ?_
 refine Os 6 [(4, nt (imin (IntKind.i64.wrap (Int.tdiv (IntKind.i64.wrap (a * 1000000000)) b)) 1000000000))] ?_
 refine Oe ?_
 refine V_ret ?_
 exact X_return (nt (imin (IntKind.i64.wrap (Int.tdiv (IntKind.i64.wrap (a * 1000000000)) b)) 1000000000)) rfl ⟨by unfold ratioI; rw [if_neg hc1], rfl⟩

set_option maxRecDepth 10000 in
theorem perIs_spec (c : Crv) (w : World) : Calls Tryz.prog 121 #[.agg c.cells.toArray] w fun e w' => e = .returned (.bool (decide (okCrv c))) ∧ Keep none_ w w' := by
 have hK0 : Keep none_ w w := Keep.refl _ _
 have hzhK0 := Keep.size hK0
 refine enterV Tryz.func121 rfl [.agg (Crv.cells c).toArray] 57 rfl rfl rfl ?_
 refine V_pick [(0, .agg (Crv.cells c).toArray)] rfl ?_
 refine Vr ?_
 refine OI_box 25 (.tmp 0) (.agg (Crv.cells c).toArray) (Crv.cells c) (some 1) (by kernel_rfl) (by kernel_rfl) rfl ?_
 intro b1 w1 e1 hb1 k1 z1
 have hsz2 := Keep.size k1
 replace hK0 := Keep.tr hK0 (Keep.ofNone k1)
 have hb1lt := hb1.lt
 refine Os 2 [(1, pt b1)] ?_
 refine Oer ?_
 refine Os 1 [(1, pt b1), (4, .pointer (some ⟨b1, 1, none⟩))] ?_
 refine Oc 3 (.tmp 4) 1 (nt c.a) (some 5) hb1 rfl ?_
 refine Ok { callee := (Callee.value (Operand.func 169)), args := #[(Operand.tmp 5), (Operand.const (Value.int IntKind.i64 0)), (Operand.const (Value.int IntKind.i64 1000000000))], argTypes := #[3, 3, 3] } 169 #[nt c.a, nt 0, nt 1000000000] (some 6) (pIn_spec c.a 0 1000000000 _) ?_
 rintro _ w1 ⟨rfl, rfl⟩
 refine ⟨_, rfl, ?_⟩
 refine Os 4 [(1, pt b1), (7, .bool (decide ((0 : Int) ≤ c.a ∧ c.a ≤ 1000000000)))] ?_
 by_cases hg4 : (0 : Int) ≤ c.a ∧ c.a ≤ 1000000000
 ·
  refine OI_eq [(1, pt b1), (7, .bool true)] (by first | simp [hg4] | rfl) ?_
  refine Os 5 [(1, pt b1), (7, .bool true), (8, .pointer (some ⟨b1, 2, none⟩))] ?_
  refine Oc 3 (.tmp 8) 2 (nt c.b) (some 9) hb1 rfl ?_
  refine Os 7 [(1, pt b1), (7, .bool true), (9, nt c.b), (10, .pointer (some ⟨b1, 1, none⟩))] ?_
  refine Oc 3 (.tmp 10) 1 (nt c.a) (some 11) hb1 rfl ?_
  refine Ok { callee := (Callee.value (Operand.func 169)), args := #[(Operand.tmp 9), (Operand.const (Value.int IntKind.i64 0)), (Operand.tmp 11)], argTypes := #[3, 3, 3] } 169 #[nt c.b, nt 0, nt c.a] (some 12) (pIn_spec c.b 0 c.a _) ?_
  rintro _ w1 ⟨rfl, rfl⟩
  refine ⟨_, rfl, ?_⟩
  refine Os 11 [(1, pt b1), (14, .bool (decide ((0 : Int) ≤ c.b ∧ c.b ≤ c.a)))] ?_
  by_cases hg6 : (0 : Int) ≤ c.b ∧ c.b ≤ c.a
  ·
   refine OI_eq [(1, pt b1), (14, .bool true)] (by first | simp [hg6] | rfl) ?_
   refine Os 12 [(1, pt b1), (14, .bool true), (15, .pointer (some ⟨b1, 3, none⟩))] ?_
   refine Oc 3 (.tmp 15) 3 (nt c.c) (some 16) hb1 rfl ?_
   refine Ok { callee := (Callee.value (Operand.func 169)), args := #[(Operand.tmp 16), (Operand.const (Value.int IntKind.i64 1)), (Operand.const (Value.int IntKind.i64 1000000000))], argTypes := #[3, 3, 3] } 169 #[nt c.c, nt 1, nt 1000000000] (some 17) (pIn_spec c.c 1 1000000000 _) ?_
   rintro _ w1 ⟨rfl, rfl⟩
   refine ⟨_, rfl, ?_⟩
   refine Os 16 [(1, pt b1), (3, .bool (decide ((1 : Int) ≤ c.c ∧ c.c ≤ 1000000000)))] ?_
   refine Oe ?_
   refine V_seq ?_
   refine Vr ?_
   refine Os 1 [(1, pt b1), (3, .bool (decide ((1 : Int) ≤ c.c ∧ c.c ≤ 1000000000))), (19, pt b1)] ?_
   refine Oc 3 (.tmp 19) 0 (nt c.k) (some 20) hb1 rfl ?_
   refine Oe ?_
   refine V_block ?_
   refine Vr ?_
   refine Os 2 [(1, pt b1), (3, .bool (decide ((1 : Int) ≤ c.c ∧ c.c ≤ 1000000000))), (20, nt c.k), (21, .bool (decide (c.k = 1)))] ?_
   refine Oe ?_
   refine V_if (c.k = 1) (by kernel_rfl) (fun hc8 => ?_) (fun hc8 => ?_)
   ·
    refine Vr ?_
    refine Os 2 [(1, pt b1), (24, .bool (decide ((1 : Int) ≤ c.c ∧ c.c ≤ 1000000000)))] ?_
    by_cases hg9 : (1 : Int) ≤ c.c ∧ c.c ≤ 1000000000
    ·
     refine OI_eq [(1, pt b1), (24, .bool true)] (by first | simp [hg9] | rfl) ?_
     refine Os 3 [(24, .bool true), (25, .pointer (some ⟨b1, 4, none⟩))] ?_
     refine Oc 3 (.tmp 25) 4 (nt c.d) (some 26) hb1 rfl ?_
     refine Os 7 [(2, .bool (decide (c.d = 0)))] ?_
     refine Oe ?_
     refine V_ret ?_
     refine X_ret_block ?_
     refine X_ret_then ?_
     exact X_return (.bool (decide (c.d = 0))) rfl ⟨by congr 2; first | (apply Eq.symm; (try simp only [decide_eq_true_eq]); (try simp only [decide_eq_false_iff_not]); unfold okCrv fallsC; simp_all <;> omega) | (rw [decide_eq_decide]; unfold okCrv fallsC; simp_all <;> omega), hK0⟩
    refine OI_eq [(1, pt b1), (24, .bool false)] (by first | simp [hg9] | rfl) ?_
    refine Os 7 [(2, .bool false)] ?_
    refine Oe ?_
    refine V_ret ?_
    refine X_ret_block ?_
    refine X_ret_then ?_
    exact X_return (.bool false) rfl ⟨by congr 2; first | (apply Eq.symm; (try simp only [decide_eq_true_eq]); (try simp only [decide_eq_false_iff_not]); unfold okCrv fallsC; simp_all <;> omega) | (rw [decide_eq_decide]; unfold okCrv fallsC; simp_all <;> omega), hK0⟩
   refine Vr ?_
   refine Os 2 [(1, pt b1), (3, .bool (decide ((1 : Int) ≤ c.c ∧ c.c ≤ 1000000000))), (20, nt c.k), (29, .bool (decide (c.k = 2)))] ?_
   refine Oe ?_
   refine V_if (c.k = 2) (by kernel_rfl) (fun hc10 => ?_) (fun hc10 => ?_)
   ·
    refine Vr ?_
    refine Os 2 [(1, pt b1), (32, .bool (decide ((1 : Int) ≤ c.c ∧ c.c ≤ 1000000000)))] ?_
    by_cases hg11 : (1 : Int) ≤ c.c ∧ c.c ≤ 1000000000
    ·
     refine OI_eq [(1, pt b1), (32, .bool true)] (by first | simp [hg11] | rfl) ?_
     refine Os 3 [(32, .bool true), (33, .pointer (some ⟨b1, 4, none⟩))] ?_
     refine Oc 3 (.tmp 33) 4 (nt c.d) (some 34) hb1 rfl ?_
     refine Ok { callee := (Callee.value (Operand.func 169)), args := #[(Operand.tmp 34), (Operand.const (Value.int IntKind.i64 1)), (Operand.const (Value.int IntKind.i64 1000000000))], argTypes := #[3, 3, 3] } 169 #[nt c.d, nt 1, nt 1000000000] (some 35) (pIn_spec c.d 1 1000000000 _) ?_
     rintro _ w1 ⟨rfl, rfl⟩
     refine ⟨_, rfl, ?_⟩
     refine Os 7 [(2, .bool (decide ((1 : Int) ≤ c.d ∧ c.d ≤ 1000000000)))] ?_
     refine Oe ?_
     refine V_ret ?_
     refine X_ret_block ?_
     refine X_ret_then ?_
     exact X_return (.bool (decide ((1 : Int) ≤ c.d ∧ c.d ≤ 1000000000))) rfl ⟨by congr 2; first | (apply Eq.symm; (try simp only [decide_eq_true_eq]); (try simp only [decide_eq_false_iff_not]); unfold okCrv fallsC; simp_all <;> omega) | (rw [decide_eq_decide]; unfold okCrv fallsC; simp_all <;> omega), hK0⟩
    refine OI_eq [(1, pt b1), (32, .bool false)] (by first | simp [hg11] | rfl) ?_
    refine Os 7 [(2, .bool false)] ?_
    refine Oe ?_
    refine V_ret ?_
    refine X_ret_block ?_
    refine X_ret_then ?_
    exact X_return (.bool false) rfl ⟨by congr 2; first | (apply Eq.symm; (try simp only [decide_eq_true_eq]); (try simp only [decide_eq_false_iff_not]); unfold okCrv fallsC; simp_all <;> omega) | (rw [decide_eq_decide]; unfold okCrv fallsC; simp_all <;> omega), hK0⟩
   refine Vr ?_
   refine Os 2 [(1, pt b1), (37, .bool (decide (c.k = 3)))] ?_
   refine Oe ?_
   refine V_if (c.k = 3) (by kernel_rfl) (fun hc13 => ?_) (fun hc13 => ?_)
   ·
    refine Vr ?_
    refine Os 1 [(1, pt b1), (39, .pointer (some ⟨b1, 1, none⟩))] ?_
    refine Oc 3 (.tmp 39) 1 (nt c.a) (some 40) hb1 rfl ?_
    refine Ok { callee := (Callee.value (Operand.func 169)), args := #[(Operand.tmp 40), (Operand.const (Value.int IntKind.i64 0)), (Operand.const (Value.int IntKind.i64 1000000000))], argTypes := #[3, 3, 3] } 169 #[nt c.a, nt 0, nt 1000000000] (some 41) (pIn_spec c.a 0 1000000000 _) ?_
    rintro _ w1 ⟨rfl, rfl⟩
    refine ⟨_, rfl, ?_⟩
    refine Os 4 [(1, pt b1), (42, .bool (decide ((0 : Int) ≤ c.a ∧ c.a ≤ 1000000000)))] ?_
    by_cases hg15 : (0 : Int) ≤ c.a ∧ c.a ≤ 1000000000
    ·
     refine OI_eq [(1, pt b1), (42, .bool true)] (by first | simp [hg15] | rfl) ?_
     refine Os 5 [(1, pt b1), (42, .bool true), (43, .pointer (some ⟨b1, 3, none⟩))] ?_
     refine Oc 3 (.tmp 43) 3 (nt c.c) (some 44) hb1 rfl ?_
     refine Ok { callee := (Callee.value (Operand.func 169)), args := #[(Operand.tmp 44), (Operand.const (Value.int IntKind.i64 0)), (Operand.const (Value.int IntKind.i64 1000000000))], argTypes := #[3, 3, 3] } 169 #[nt c.c, nt 0, nt 1000000000] (some 45) (pIn_spec c.c 0 1000000000 _) ?_
     rintro _ w1 ⟨rfl, rfl⟩
     refine ⟨_, rfl, ?_⟩
     refine Os 9 [(1, pt b1), (47, .bool (decide ((0 : Int) ≤ c.c ∧ c.c ≤ 1000000000)))] ?_
     by_cases hg17 : (0 : Int) ≤ c.c ∧ c.c ≤ 1000000000
     ·
      refine OI_eq [(1, pt b1), (47, .bool true)] (by first | simp [hg17] | rfl) ?_
      refine Os 10 [(1, pt b1), (47, .bool true), (48, .pointer (some ⟨b1, 2, none⟩))] ?_
      refine Oc 3 (.tmp 48) 2 (nt c.b) (some 49) hb1 rfl ?_
      refine Ok { callee := (Callee.value (Operand.func 169)), args := #[(Operand.tmp 49), (Operand.const (Value.int IntKind.i64 1)), (Operand.const (Value.int IntKind.i64 1000000000))], argTypes := #[3, 3, 3] } 169 #[nt c.b, nt 1, nt 1000000000] (some 50) (pIn_spec c.b 1 1000000000 _) ?_
      rintro _ w1 ⟨rfl, rfl⟩
      refine ⟨_, rfl, ?_⟩
      refine Os 14 [(1, pt b1), (52, .bool (decide ((1 : Int) ≤ c.b ∧ c.b ≤ 1000000000)))] ?_
      by_cases hg19 : (1 : Int) ≤ c.b ∧ c.b ≤ 1000000000
      ·
       refine OI_eq [(1, pt b1), (52, .bool true)] (by first | simp [hg19] | rfl) ?_
       refine Os 15 [(52, .bool true), (53, .pointer (some ⟨b1, 4, none⟩))] ?_
       refine Oc 3 (.tmp 53) 4 (nt c.d) (some 54) hb1 rfl ?_
       refine Os 19 [(2, .bool (decide (c.d = 0)))] ?_
       refine Oe ?_
       refine V_ret ?_
       refine X_ret_block ?_
       refine X_ret_then ?_
       exact X_return (.bool (decide (c.d = 0))) rfl ⟨by congr 2; first | (apply Eq.symm; (try simp only [decide_eq_true_eq]); (try simp only [decide_eq_false_iff_not]); unfold okCrv fallsC; simp_all <;> omega) | (rw [decide_eq_decide]; unfold okCrv fallsC; simp_all <;> omega), hK0⟩
      refine OI_eq [(1, pt b1), (52, .bool false)] (by first | simp [hg19] | rfl) ?_
      refine Os 19 [(2, .bool false)] ?_
      refine Oe ?_
      refine V_ret ?_
      refine X_ret_block ?_
      refine X_ret_then ?_
      exact X_return (.bool false) rfl ⟨by congr 2; first | (apply Eq.symm; (try simp only [decide_eq_true_eq]); (try simp only [decide_eq_false_iff_not]); unfold okCrv fallsC; simp_all <;> omega) | (rw [decide_eq_decide]; unfold okCrv fallsC; simp_all <;> omega), hK0⟩
     refine OI_eq [(1, pt b1), (47, .bool false)] (by first | simp [hg17] | rfl) ?_
     refine Os 19 [(2, .bool false)] ?_
     refine Oe ?_
     refine V_ret ?_
     refine X_ret_block ?_
     refine X_ret_then ?_
     exact X_return (.bool false) rfl ⟨by congr 2; first | (apply Eq.symm; (try simp only [decide_eq_true_eq]); (try simp only [decide_eq_false_iff_not]); unfold okCrv fallsC; simp_all <;> omega) | (rw [decide_eq_decide]; unfold okCrv fallsC; simp_all <;> omega), hK0⟩
    refine OI_eq [(1, pt b1), (42, .bool false)] (by first | simp [hg15] | rfl) ?_
    refine Os 19 [(2, .bool false)] ?_
    refine Oe ?_
    refine V_ret ?_
    refine X_ret_block ?_
    refine X_ret_then ?_
    exact X_return (.bool false) rfl ⟨by congr 2; first | (apply Eq.symm; (try simp only [decide_eq_true_eq]); (try simp only [decide_eq_false_iff_not]); unfold okCrv fallsC; simp_all <;> omega) | (rw [decide_eq_decide]; unfold okCrv fallsC; simp_all <;> omega), hK0⟩
   refine V_skip ?_
   refine X_block ?_
   refine X_then ?_
   refine Vr ?_
   refine Os 1 [(2, .bool false)] ?_
   refine Oe ?_
   refine V_ret ?_
   exact X_return (.bool false) rfl ⟨by congr 2; first | (apply Eq.symm; (try simp only [decide_eq_true_eq]); (try simp only [decide_eq_false_iff_not]); unfold okCrv fallsC; simp_all <;> omega) | (rw [decide_eq_decide]; unfold okCrv fallsC; simp_all <;> omega), hK0⟩
  refine OI_eq [(1, pt b1), (14, .bool false)] (by first | simp [hg6] | rfl) ?_
  refine Os 16 [(1, pt b1), (3, .bool false)] ?_
  refine Oe ?_
  refine V_seq ?_
  refine Vr ?_
  refine Os 1 [(1, pt b1), (3, .bool false), (19, pt b1)] ?_
  refine Oc 3 (.tmp 19) 0 (nt c.k) (some 20) hb1 rfl ?_
  refine Oe ?_
  refine V_block ?_
  refine Vr ?_
  refine Os 2 [(1, pt b1), (3, .bool false), (20, nt c.k), (21, .bool (decide (c.k = 1)))] ?_
  refine Oe ?_
  refine V_if (c.k = 1) (by kernel_rfl) (fun hc20 => ?_) (fun hc20 => ?_)
  ·
   refine Vr ?_
   refine Os 7 [(2, .bool false)] ?_
   refine Oe ?_
   refine V_ret ?_
   refine X_ret_block ?_
   refine X_ret_then ?_
   exact X_return (.bool false) rfl ⟨by congr 2; first | (apply Eq.symm; (try simp only [decide_eq_true_eq]); (try simp only [decide_eq_false_iff_not]); unfold okCrv fallsC; simp_all <;> omega) | (rw [decide_eq_decide]; unfold okCrv fallsC; simp_all <;> omega), hK0⟩
  refine Vr ?_
  refine Os 2 [(1, pt b1), (3, .bool false), (20, nt c.k), (29, .bool (decide (c.k = 2)))] ?_
  refine Oe ?_
  refine V_if (c.k = 2) (by kernel_rfl) (fun hc21 => ?_) (fun hc21 => ?_)
  ·
   refine Vr ?_
   refine Os 7 [(2, .bool false)] ?_
   refine Oe ?_
   refine V_ret ?_
   refine X_ret_block ?_
   refine X_ret_then ?_
   exact X_return (.bool false) rfl ⟨by congr 2; first | (apply Eq.symm; (try simp only [decide_eq_true_eq]); (try simp only [decide_eq_false_iff_not]); unfold okCrv fallsC; simp_all <;> omega) | (rw [decide_eq_decide]; unfold okCrv fallsC; simp_all <;> omega), hK0⟩
  refine Vr ?_
  refine Os 2 [(1, pt b1), (37, .bool (decide (c.k = 3)))] ?_
  refine Oe ?_
  refine V_if (c.k = 3) (by kernel_rfl) (fun hc22 => ?_) (fun hc22 => ?_)
  ·
   refine Vr ?_
   refine Os 1 [(1, pt b1), (39, .pointer (some ⟨b1, 1, none⟩))] ?_
   refine Oc 3 (.tmp 39) 1 (nt c.a) (some 40) hb1 rfl ?_
   refine Ok { callee := (Callee.value (Operand.func 169)), args := #[(Operand.tmp 40), (Operand.const (Value.int IntKind.i64 0)), (Operand.const (Value.int IntKind.i64 1000000000))], argTypes := #[3, 3, 3] } 169 #[nt c.a, nt 0, nt 1000000000] (some 41) (pIn_spec c.a 0 1000000000 _) ?_
   rintro _ w1 ⟨rfl, rfl⟩
   refine ⟨_, rfl, ?_⟩
   refine Os 4 [(1, pt b1), (42, .bool (decide ((0 : Int) ≤ c.a ∧ c.a ≤ 1000000000)))] ?_
   by_cases hg24 : (0 : Int) ≤ c.a ∧ c.a ≤ 1000000000
   ·
    refine OI_eq [(1, pt b1), (42, .bool true)] (by first | simp [hg24] | rfl) ?_
    refine Os 5 [(1, pt b1), (42, .bool true), (43, .pointer (some ⟨b1, 3, none⟩))] ?_
    refine Oc 3 (.tmp 43) 3 (nt c.c) (some 44) hb1 rfl ?_
    refine Ok { callee := (Callee.value (Operand.func 169)), args := #[(Operand.tmp 44), (Operand.const (Value.int IntKind.i64 0)), (Operand.const (Value.int IntKind.i64 1000000000))], argTypes := #[3, 3, 3] } 169 #[nt c.c, nt 0, nt 1000000000] (some 45) (pIn_spec c.c 0 1000000000 _) ?_
    rintro _ w1 ⟨rfl, rfl⟩
    refine ⟨_, rfl, ?_⟩
    refine Os 9 [(1, pt b1), (47, .bool (decide ((0 : Int) ≤ c.c ∧ c.c ≤ 1000000000)))] ?_
    by_cases hg26 : (0 : Int) ≤ c.c ∧ c.c ≤ 1000000000
    ·
     refine OI_eq [(1, pt b1), (47, .bool true)] (by first | simp [hg26] | rfl) ?_
     refine Os 10 [(1, pt b1), (47, .bool true), (48, .pointer (some ⟨b1, 2, none⟩))] ?_
     refine Oc 3 (.tmp 48) 2 (nt c.b) (some 49) hb1 rfl ?_
     refine Ok { callee := (Callee.value (Operand.func 169)), args := #[(Operand.tmp 49), (Operand.const (Value.int IntKind.i64 1)), (Operand.const (Value.int IntKind.i64 1000000000))], argTypes := #[3, 3, 3] } 169 #[nt c.b, nt 1, nt 1000000000] (some 50) (pIn_spec c.b 1 1000000000 _) ?_
     rintro _ w1 ⟨rfl, rfl⟩
     refine ⟨_, rfl, ?_⟩
     refine Os 14 [(1, pt b1), (52, .bool (decide ((1 : Int) ≤ c.b ∧ c.b ≤ 1000000000)))] ?_
     by_cases hg28 : (1 : Int) ≤ c.b ∧ c.b ≤ 1000000000
     ·
      refine OI_eq [(1, pt b1), (52, .bool true)] (by first | simp [hg28] | rfl) ?_
      refine Os 15 [(52, .bool true), (53, .pointer (some ⟨b1, 4, none⟩))] ?_
      refine Oc 3 (.tmp 53) 4 (nt c.d) (some 54) hb1 rfl ?_
      refine Os 19 [(2, .bool (decide (c.d = 0)))] ?_
      refine Oe ?_
      refine V_ret ?_
      refine X_ret_block ?_
      refine X_ret_then ?_
      exact X_return (.bool (decide (c.d = 0))) rfl ⟨by congr 2; first | (apply Eq.symm; (try simp only [decide_eq_true_eq]); (try simp only [decide_eq_false_iff_not]); unfold okCrv fallsC; simp_all <;> omega) | (rw [decide_eq_decide]; unfold okCrv fallsC; simp_all <;> omega), hK0⟩
     refine OI_eq [(1, pt b1), (52, .bool false)] (by first | simp [hg28] | rfl) ?_
     refine Os 19 [(2, .bool false)] ?_
     refine Oe ?_
     refine V_ret ?_
     refine X_ret_block ?_
     refine X_ret_then ?_
     exact X_return (.bool false) rfl ⟨by congr 2; first | (apply Eq.symm; (try simp only [decide_eq_true_eq]); (try simp only [decide_eq_false_iff_not]); unfold okCrv fallsC; simp_all <;> omega) | (rw [decide_eq_decide]; unfold okCrv fallsC; simp_all <;> omega), hK0⟩
    refine OI_eq [(1, pt b1), (47, .bool false)] (by first | simp [hg26] | rfl) ?_
    refine Os 19 [(2, .bool false)] ?_
    refine Oe ?_
    refine V_ret ?_
    refine X_ret_block ?_
    refine X_ret_then ?_
    exact X_return (.bool false) rfl ⟨by congr 2; first | (apply Eq.symm; (try simp only [decide_eq_true_eq]); (try simp only [decide_eq_false_iff_not]); unfold okCrv fallsC; simp_all <;> omega) | (rw [decide_eq_decide]; unfold okCrv fallsC; simp_all <;> omega), hK0⟩
   refine OI_eq [(1, pt b1), (42, .bool false)] (by first | simp [hg24] | rfl) ?_
   refine Os 19 [(2, .bool false)] ?_
   refine Oe ?_
   refine V_ret ?_
   refine X_ret_block ?_
   refine X_ret_then ?_
   exact X_return (.bool false) rfl ⟨by congr 2; first | (apply Eq.symm; (try simp only [decide_eq_true_eq]); (try simp only [decide_eq_false_iff_not]); unfold okCrv fallsC; simp_all <;> omega) | (rw [decide_eq_decide]; unfold okCrv fallsC; simp_all <;> omega), hK0⟩
  refine V_skip ?_
  refine X_block ?_
  refine X_then ?_
  refine Vr ?_
  refine Os 1 [(2, .bool false)] ?_
  refine Oe ?_
  refine V_ret ?_
  exact X_return (.bool false) rfl ⟨by congr 2; first | (apply Eq.symm; (try simp only [decide_eq_true_eq]); (try simp only [decide_eq_false_iff_not]); unfold okCrv fallsC; simp_all <;> omega) | (rw [decide_eq_decide]; unfold okCrv fallsC; simp_all <;> omega), hK0⟩
 refine OI_eq [(1, pt b1), (7, .bool false)] (by first | simp [hg4] | rfl) ?_
 refine Os 16 [(1, pt b1), (3, .bool false)] ?_
 refine Oe ?_
 refine V_seq ?_
 refine Vr ?_
 refine Os 1 [(1, pt b1), (3, .bool false), (19, pt b1)] ?_
 refine Oc 3 (.tmp 19) 0 (nt c.k) (some 20) hb1 rfl ?_
 refine Oe ?_
 refine V_block ?_
 refine Vr ?_
 refine Os 2 [(1, pt b1), (3, .bool false), (20, nt c.k), (21, .bool (decide (c.k = 1)))] ?_
 refine Oe ?_
 refine V_if (c.k = 1) (by kernel_rfl) (fun hc29 => ?_) (fun hc29 => ?_)
 ·
  refine Vr ?_
  refine Os 7 [(2, .bool false)] ?_
  refine Oe ?_
  refine V_ret ?_
  refine X_ret_block ?_
  refine X_ret_then ?_
  exact X_return (.bool false) rfl ⟨by congr 2; first | (apply Eq.symm; (try simp only [decide_eq_true_eq]); (try simp only [decide_eq_false_iff_not]); unfold okCrv fallsC; simp_all <;> omega) | (rw [decide_eq_decide]; unfold okCrv fallsC; simp_all <;> omega), hK0⟩
 refine Vr ?_
 refine Os 2 [(1, pt b1), (3, .bool false), (20, nt c.k), (29, .bool (decide (c.k = 2)))] ?_
 refine Oe ?_
 refine V_if (c.k = 2) (by kernel_rfl) (fun hc30 => ?_) (fun hc30 => ?_)
 ·
  refine Vr ?_
  refine Os 7 [(2, .bool false)] ?_
  refine Oe ?_
  refine V_ret ?_
  refine X_ret_block ?_
  refine X_ret_then ?_
  exact X_return (.bool false) rfl ⟨by congr 2; first | (apply Eq.symm; (try simp only [decide_eq_true_eq]); (try simp only [decide_eq_false_iff_not]); unfold okCrv fallsC; simp_all <;> omega) | (rw [decide_eq_decide]; unfold okCrv fallsC; simp_all <;> omega), hK0⟩
 refine Vr ?_
 refine Os 2 [(1, pt b1), (37, .bool (decide (c.k = 3)))] ?_
 refine Oe ?_
 refine V_if (c.k = 3) (by kernel_rfl) (fun hc31 => ?_) (fun hc31 => ?_)
 ·
  refine Vr ?_
  refine Os 1 [(1, pt b1), (39, .pointer (some ⟨b1, 1, none⟩))] ?_
  refine Oc 3 (.tmp 39) 1 (nt c.a) (some 40) hb1 rfl ?_
  refine Ok { callee := (Callee.value (Operand.func 169)), args := #[(Operand.tmp 40), (Operand.const (Value.int IntKind.i64 0)), (Operand.const (Value.int IntKind.i64 1000000000))], argTypes := #[3, 3, 3] } 169 #[nt c.a, nt 0, nt 1000000000] (some 41) (pIn_spec c.a 0 1000000000 _) ?_
  rintro _ w1 ⟨rfl, rfl⟩
  refine ⟨_, rfl, ?_⟩
  refine Os 4 [(1, pt b1), (42, .bool (decide ((0 : Int) ≤ c.a ∧ c.a ≤ 1000000000)))] ?_
  by_cases hg33 : (0 : Int) ≤ c.a ∧ c.a ≤ 1000000000
  ·
   refine OI_eq [(1, pt b1), (42, .bool true)] (by first | simp [hg33] | rfl) ?_
   refine Os 5 [(1, pt b1), (42, .bool true), (43, .pointer (some ⟨b1, 3, none⟩))] ?_
   refine Oc 3 (.tmp 43) 3 (nt c.c) (some 44) hb1 rfl ?_
   refine Ok { callee := (Callee.value (Operand.func 169)), args := #[(Operand.tmp 44), (Operand.const (Value.int IntKind.i64 0)), (Operand.const (Value.int IntKind.i64 1000000000))], argTypes := #[3, 3, 3] } 169 #[nt c.c, nt 0, nt 1000000000] (some 45) (pIn_spec c.c 0 1000000000 _) ?_
   rintro _ w1 ⟨rfl, rfl⟩
   refine ⟨_, rfl, ?_⟩
   refine Os 9 [(1, pt b1), (47, .bool (decide ((0 : Int) ≤ c.c ∧ c.c ≤ 1000000000)))] ?_
   by_cases hg35 : (0 : Int) ≤ c.c ∧ c.c ≤ 1000000000
   ·
    refine OI_eq [(1, pt b1), (47, .bool true)] (by first | simp [hg35] | rfl) ?_
    refine Os 10 [(1, pt b1), (47, .bool true), (48, .pointer (some ⟨b1, 2, none⟩))] ?_
    refine Oc 3 (.tmp 48) 2 (nt c.b) (some 49) hb1 rfl ?_
    refine Ok { callee := (Callee.value (Operand.func 169)), args := #[(Operand.tmp 49), (Operand.const (Value.int IntKind.i64 1)), (Operand.const (Value.int IntKind.i64 1000000000))], argTypes := #[3, 3, 3] } 169 #[nt c.b, nt 1, nt 1000000000] (some 50) (pIn_spec c.b 1 1000000000 _) ?_
    rintro _ w1 ⟨rfl, rfl⟩
    refine ⟨_, rfl, ?_⟩
    refine Os 14 [(1, pt b1), (52, .bool (decide ((1 : Int) ≤ c.b ∧ c.b ≤ 1000000000)))] ?_
    by_cases hg37 : (1 : Int) ≤ c.b ∧ c.b ≤ 1000000000
    ·
     refine OI_eq [(1, pt b1), (52, .bool true)] (by first | simp [hg37] | rfl) ?_
     refine Os 15 [(52, .bool true), (53, .pointer (some ⟨b1, 4, none⟩))] ?_
     refine Oc 3 (.tmp 53) 4 (nt c.d) (some 54) hb1 rfl ?_
     refine Os 19 [(2, .bool (decide (c.d = 0)))] ?_
     refine Oe ?_
     refine V_ret ?_
     refine X_ret_block ?_
     refine X_ret_then ?_
     exact X_return (.bool (decide (c.d = 0))) rfl ⟨by congr 2; first | (apply Eq.symm; (try simp only [decide_eq_true_eq]); (try simp only [decide_eq_false_iff_not]); unfold okCrv fallsC; simp_all <;> omega) | (rw [decide_eq_decide]; unfold okCrv fallsC; simp_all <;> omega), hK0⟩
    refine OI_eq [(1, pt b1), (52, .bool false)] (by first | simp [hg37] | rfl) ?_
    refine Os 19 [(2, .bool false)] ?_
    refine Oe ?_
    refine V_ret ?_
    refine X_ret_block ?_
    refine X_ret_then ?_
    exact X_return (.bool false) rfl ⟨by congr 2; first | (apply Eq.symm; (try simp only [decide_eq_true_eq]); (try simp only [decide_eq_false_iff_not]); unfold okCrv fallsC; simp_all <;> omega) | (rw [decide_eq_decide]; unfold okCrv fallsC; simp_all <;> omega), hK0⟩
   refine OI_eq [(1, pt b1), (47, .bool false)] (by first | simp [hg35] | rfl) ?_
   refine Os 19 [(2, .bool false)] ?_
   refine Oe ?_
   refine V_ret ?_
   refine X_ret_block ?_
   refine X_ret_then ?_
   exact X_return (.bool false) rfl ⟨by congr 2; first | (apply Eq.symm; (try simp only [decide_eq_true_eq]); (try simp only [decide_eq_false_iff_not]); unfold okCrv fallsC; simp_all <;> omega) | (rw [decide_eq_decide]; unfold okCrv fallsC; simp_all <;> omega), hK0⟩
  refine OI_eq [(1, pt b1), (42, .bool false)] (by first | simp [hg33] | rfl) ?_
  refine Os 19 [(2, .bool false)] ?_
  refine Oe ?_
  refine V_ret ?_
  refine X_ret_block ?_
  refine X_ret_then ?_
  exact X_return (.bool false) rfl ⟨by congr 2; first | (apply Eq.symm; (try simp only [decide_eq_true_eq]); (try simp only [decide_eq_false_iff_not]); unfold okCrv fallsC; simp_all <;> omega) | (rw [decide_eq_decide]; unfold okCrv fallsC; simp_all <;> omega), hK0⟩
 refine V_skip ?_
 refine X_block ?_
 refine X_then ?_
 refine Vr ?_
 refine Os 1 [(2, .bool false)] ?_
 refine Oe ?_
 refine V_ret ?_
 exact X_return (.bool false) rfl ⟨by congr 2; first | (apply Eq.symm; (try simp only [decide_eq_true_eq]); (try simp only [decide_eq_false_iff_not]); unfold okCrv fallsC; simp_all <;> omega) | (rw [decide_eq_decide]; unfold okCrv fallsC; simp_all <;> omega), hK0⟩

theorem heldI_bnd (x : Int) : 0 ≤ heldI x 0 1000000000 ∧ heldI x 0 1000000000 ≤ 1000000000 := by
  unfold heldI imin imax
  split <;> split <;> omega
theorem w64_id {x : Int} (h1 : -9223372036854775808 ≤ x) (h2 : x ≤ 9223372036854775807) : w64 x = x := wrap64_id (by omega) (by omega)

set_option maxRecDepth 10000 in
theorem perAt_spec (c : Crv) (x : Int) (w : World) (hok : okCrv c) : Calls Tryz.prog 155 #[.agg c.cells.toArray, .int .i64 x] w fun e w' => e = .returned (.int .i64 (atI c x)) ∧ Keep none_ w w' := by
 have hK0 : Keep none_ w w := Keep.refl _ _
 have hzhK0 := Keep.size hK0
 refine enterV Tryz.func155 rfl [.agg (Crv.cells c).toArray, nt x] 59 rfl rfl rfl ?_
 refine V_pick [(0, .agg (Crv.cells c).toArray), (1, nt x)] rfl ?_
 refine Vr ?_
 refine OI_box 25 (.tmp 0) (.agg (Crv.cells c).toArray) (Crv.cells c) (some 2) (by kernel_rfl) (by kernel_rfl) rfl ?_
 intro b1 w1 e1 hb1 k1 z1
 have hsz2 := Keep.size k1
 replace hK0 := Keep.tr hK0 (Keep.ofNone k1)
 have hb1lt := hb1.lt
 refine Os 2 [(1, nt x), (2, pt b1)] ?_
 refine Oer ?_
 refine Os 1 [(2, pt b1), (5, nt x)] ?_
 refine Ok { callee := (Callee.value (Operand.func 186)), args := #[(Operand.tmp 5), (Operand.const (Value.int IntKind.i64 0)), (Operand.const (Value.int IntKind.i64 1000000000))], argTypes := #[3, 3, 3] } 186 #[nt x, nt 0, nt 1000000000] (some 6) (pheld_spec x 0 1000000000 _) ?_
 rintro _ w1 ⟨rfl, rfl⟩
 refine ⟨_, rfl, ?_⟩
 refine Os 3 [(1, nt (heldI x 0 1000000000)), (2, pt b1)] ?_
 refine Oe ?_
 refine V_seq ?_
 refine Vr ?_
 refine Os 1 [(1, nt (heldI x 0 1000000000)), (2, pt b1), (7, pt b1)] ?_
 refine Oc 3 (.tmp 7) 0 (nt c.k) (some 8) hb1 rfl ?_
 refine Oe ?_
 refine V_block ?_
 refine Vr ?_
 refine Os 2 [(1, nt (heldI x 0 1000000000)), (2, pt b1), (8, nt c.k), (9, .bool (decide (c.k = 1)))] ?_
 refine Oe ?_
 refine V_if (c.k = 1) (by kernel_rfl) (fun hc4 => ?_) (fun hc4 => ?_)
 ·
  refine V_seq ?_
  refine Vr ?_
  refine Os 2 [(1, nt (heldI x 0 1000000000)), (2, pt b1), (11, nt (heldI x 0 1000000000)), (12, .pointer (some ⟨b1, 3, none⟩))] ?_
  refine Oc 3 (.tmp 12) 3 (nt c.c) (some 13) hb1 rfl ?_
  refine Os 4 [(1, nt (heldI x 0 1000000000)), (2, pt b1), (14, .bool (decide (heldI x 0 1000000000 ≥ c.c)))] ?_
  refine Oe ?_
  refine V_if (heldI x 0 1000000000 ≥ c.c) (by kernel_rfl) (fun hc5 => ?_) (fun hc5 => ?_)
  ·
   refine Vr ?_
   refine Os 1 [(15, .pointer (some ⟨b1, 2, none⟩))] ?_
   refine Oc 3 (.tmp 15) 2 (nt c.b) (some 16) hb1 rfl ?_
   refine Os 3 [(4, nt c.b)] ?_
   refine Oe ?_
   refine V_ret ?_
   refine X_ret_then ?_
   refine X_ret_block ?_
   refine X_ret_then ?_
   exact X_return (nt c.b) rfl ⟨by unfold atI; rw [if_pos hc4, if_pos hc5], hK0⟩
  refine V_skip ?_
  refine X_then ?_
  refine V_seq ?_
  refine V_draws (acts []) none_ [[0, 1, 2, 3, 4, 5, 6, 7, 8, 9, 10, 11, 12, 13]] (by kernel_rfl) (by repeat first | exact sure_body (by rintro _ _ ⟨h, _⟩; exact ⟨_, h⟩) | refine sure_then ?_ | refine sure_block ?_ | refine sure_join ?_) (by kernel_rfl) ?_
  intro w7 hk6 he8 L hL9
  have hsz10 := Keep.size hk6
  replace hb1 := hb1.keep hk6 (fun f => f)
  replace hK0 := Keep.tr hK0 (Keep.ofNone hk6)
  have qhb1 := hb1
  have K11 : Keep none_ w7 w7 := Keep.refl _ _
  obtain rfl := List.mem_singleton.1 hL9
  refine Gs [1, 2, 3, 4, 5, 6, 7, 8, 9, 10, 11, 12, 13] [(1, nt (heldI x 0 1000000000)), (2, pt b1), (17, .pointer (some ⟨b1, 1, none⟩))] ?_
  refine Gc0 3 (.tmp 17) 1 (nt c.a) (some 18) qhb1 rfl ?_
  refine Gs [3, 4, 5, 6, 7, 8, 9, 10, 11, 12, 13] [(1, nt (heldI x 0 1000000000)), (2, pt b1), (18, nt c.a), (19, .pointer (some ⟨b1, 1, none⟩))] ?_
  refine Gc0 3 (.tmp 19) 1 (nt c.a) (some 20) qhb1 rfl ?_
  refine Gs [5, 6, 7, 8, 9, 10, 11, 12, 13] [(1, nt (heldI x 0 1000000000)), (2, pt b1), (18, nt c.a), (20, nt c.a), (21, .pointer (some ⟨b1, 2, none⟩))] ?_
  refine Gc0 3 (.tmp 21) 2 (nt c.b) (some 22) qhb1 rfl ?_
  refine Gs [10, 11, 12, 13] [(18, nt c.a), (25, nt (IntKind.i64.wrap ((IntKind.i64.wrap (c.a - c.b)) * (heldI x 0 1000000000)))), (26, .pointer (some ⟨b1, 3, none⟩))] ?_
  refine Gc0 3 (.tmp 26) 3 (nt c.c) (some 27) qhb1 rfl ?_
  refine GI_pure (some 28) ((Op.binOp BinOp.quo 3 (Operand.tmp 25) (Operand.tmp 27) 3)) (by kernel_rfl) (by kernel_rfl) (pure_quo (k := .i64) (a := IntKind.i64.wrap ((IntKind.i64.wrap (c.a - c.b)) * (heldI x 0 1000000000))) (b := c.c) (by kernel_rfl) (by kernel_rfl) (by unfold okCrv fallsC at hok; omega)) ?_
  refine Gs [] [(4, nt (IntKind.i64.wrap (c.a - (IntKind.i64.wrap (Int.tdiv (IntKind.i64.wrap ((IntKind.i64.wrap (c.a - c.b)) * (heldI x 0 1000000000))) c.c)))))] ?_
  refine GI_end ?_
  refine X_then ?_
  refine V_ret ?_
  refine X_ret_block ?_
  refine X_ret_then ?_
  exact X_return (nt (IntKind.i64.wrap (c.a - (IntKind.i64.wrap (Int.tdiv (IntKind.i64.wrap ((IntKind.i64.wrap (c.a - c.b)) * (heldI x 0 1000000000))) c.c))))) rfl ⟨by unfold atI; rw [if_pos hc4, if_neg hc5], hK0⟩
 refine Vr ?_
 refine Os 2 [(1, nt (heldI x 0 1000000000)), (2, pt b1), (8, nt c.k), (30, .bool (decide (c.k = 2)))] ?_
 refine Oe ?_
 refine V_if (c.k = 2) (by kernel_rfl) (fun hc12 => ?_) (fun hc12 => ?_)
 ·
  refine V_seq ?_
  refine V_draws (acts []) none_ [[0, 1, 2, 3, 4, 5, 6, 7, 8, 9, 10, 11, 12, 13]] (by kernel_rfl) (by repeat first | exact sure_body (by rintro _ _ ⟨h, _⟩; exact ⟨_, h⟩) | refine sure_then ?_ | refine sure_block ?_ | refine sure_join ?_) (by kernel_rfl) ?_
  intro w14 hk13 he15 L hL16
  have hsz17 := Keep.size hk13
  replace hb1 := hb1.keep hk13 (fun f => f)
  replace hK0 := Keep.tr hK0 (Keep.ofNone hk13)
  have qhb1 := hb1
  have K18 : Keep none_ w14 w14 := Keep.refl _ _
  obtain rfl := List.mem_singleton.1 hL16
  refine Gs [1, 2, 3, 4, 5, 6, 7, 8, 9, 10, 11, 12, 13] [(1, nt (heldI x 0 1000000000)), (2, pt b1), (32, .pointer (some ⟨b1, 1, none⟩))] ?_
  refine Gc0 3 (.tmp 32) 1 (nt c.a) (some 33) qhb1 rfl ?_
  refine Gs [4, 5, 6, 7, 8, 9, 10, 11, 12, 13] [(2, pt b1), (33, nt c.a), (34, nt (heldI x 0 1000000000)), (35, .pointer (some ⟨b1, 4, none⟩))] ?_
  refine Gc0 3 (.tmp 35) 4 (nt c.d) (some 36) qhb1 rfl ?_
  refine GI_pure (some 37) ((Op.binOp BinOp.quo 3 (Operand.tmp 34) (Operand.tmp 36) 3)) (by kernel_rfl) (by kernel_rfl) (pure_quo (k := .i64) (a := heldI x 0 1000000000) (b := c.d) (by kernel_rfl) (by kernel_rfl) (by unfold okCrv fallsC at hok; omega)) ?_
  refine Gs [7, 8, 9, 10, 11, 12, 13] [(2, pt b1), (33, nt c.a), (37, nt (IntKind.i64.wrap (Int.tdiv (heldI x 0 1000000000) c.d))), (38, .pointer (some ⟨b1, 3, none⟩))] ?_
  refine Gc0 3 (.tmp 38) 3 (nt c.c) (some 39) qhb1 rfl ?_
  refine Gs [11, 12, 13] [(41, nt (IntKind.i64.wrap (c.a - (IntKind.i64.wrap ((IntKind.i64.wrap (Int.tdiv (heldI x 0 1000000000) c.d)) * c.c))))), (42, .pointer (some ⟨b1, 2, none⟩))] ?_
  refine Gc0 3 (.tmp 42) 2 (nt c.b) (some 43) qhb1 rfl ?_
  refine Gs [] [(4, nt (imax (IntKind.i64.wrap (c.a - (IntKind.i64.wrap ((IntKind.i64.wrap (Int.tdiv (heldI x 0 1000000000) c.d)) * c.c)))) c.b))] ?_
  refine GI_end ?_
  refine X_then ?_
  refine V_ret ?_
  refine X_ret_block ?_
  refine X_ret_then ?_
  exact X_return (nt (imax (IntKind.i64.wrap (c.a - (IntKind.i64.wrap ((IntKind.i64.wrap (Int.tdiv (heldI x 0 1000000000) c.d)) * c.c)))) c.b)) rfl ⟨by unfold atI; rw [if_neg hc4, if_pos hc12], hK0⟩
 refine Vr ?_
 refine Os 2 [(1, nt (heldI x 0 1000000000)), (2, pt b1), (45, .bool (decide (c.k = 3)))] ?_
 refine Oe ?_
 refine V_if (c.k = 3) (by kernel_rfl) (fun hc19 => ?_) (fun hc19 => ?_)
 ·
  refine V_seq ?_
  refine V_draws (acts [11]) none_ [[0, 1, 2, 3, 4, 5, 6, 7, 8, 9, 10, 11, 12]] (by kernel_rfl) (by repeat first | exact sure_body (by rintro _ _ ⟨h, _⟩; exact ⟨_, h⟩) | refine sure_then ?_ | refine sure_block ?_ | refine sure_join ?_) (by kernel_rfl) ?_
  intro w21 hk20 he22 L hL23
  have hsz24 := Keep.size hk20
  replace hb1 := hb1.keep hk20 (fun f => f)
  replace hK0 := Keep.tr hK0 (Keep.ofNone hk20)
  have qhb1 := hb1
  have K25 : Keep none_ w21 w21 := Keep.refl _ _
  obtain rfl := List.mem_singleton.1 hL23
  refine Gs [1, 2, 3, 4, 5, 6, 7, 8, 9, 10, 11, 12] [(1, nt (heldI x 0 1000000000)), (2, pt b1), (47, .pointer (some ⟨b1, 1, none⟩))] ?_
  refine Gc0 3 (.tmp 47) 1 (nt c.a) (some 48) qhb1 rfl ?_
  refine Gs [5, 6, 7, 8, 9, 10, 11, 12] [(2, pt b1), (49, nt (IntKind.i64.wrap (c.a * 1000000000))), (50, nt (heldI x 0 1000000000)), (51, .pointer (some ⟨b1, 2, none⟩))] ?_
  refine Gc0 3 (.tmp 51) 2 (nt c.b) (some 52) qhb1 rfl ?_
  refine Gs [7, 8, 9, 10, 11, 12] [(2, pt b1), (49, nt (IntKind.i64.wrap (c.a * 1000000000))), (53, nt (IntKind.i64.wrap ((heldI x 0 1000000000) + c.b)))] ?_
  refine GI_pure (some 54) ((Op.binOp BinOp.quo 3 (Operand.tmp 49) (Operand.tmp 53) 3)) (by kernel_rfl) (by kernel_rfl) (pure_quo (k := .i64) (a := IntKind.i64.wrap (c.a * 1000000000)) (b := IntKind.i64.wrap ((heldI x 0 1000000000) + c.b)) (by kernel_rfl) (by kernel_rfl) (fun h7 => by unfold okCrv fallsC at hok; have h9 := heldI_bnd x; have h8 : w64 (heldI x 0 1000000000 + c.b) = _ := w64_id (by omega) (by omega); have h6 : w64 (heldI x 0 1000000000 + c.b) = 0 := h7; omega)) ?_
  refine Gs [9, 10, 11, 12] [(54, nt (IntKind.i64.wrap (Int.tdiv (IntKind.i64.wrap (c.a * 1000000000)) (IntKind.i64.wrap ((heldI x 0 1000000000) + c.b))))), (55, .pointer (some ⟨b1, 3, none⟩))] ?_
  refine Gc0 3 (.tmp 55) 3 (nt c.c) (some 56) qhb1 rfl ?_
  refine Gs [11, 12] [(57, nt (IntKind.i64.wrap ((IntKind.i64.wrap (Int.tdiv (IntKind.i64.wrap (c.a * 1000000000)) (IntKind.i64.wrap ((heldI x 0 1000000000) + c.b)))) - c.c)))] ?_
  refine Gk0 { callee := (Callee.value (Operand.func 186)), args := #[(Operand.tmp 57), (Operand.const (Value.int IntKind.i64 0)), (Operand.const (Value.int IntKind.i64 1000000000))], argTypes := #[3, 3, 3] } 186 #[nt (IntKind.i64.wrap ((IntKind.i64.wrap (Int.tdiv (IntKind.i64.wrap (c.a * 1000000000)) (IntKind.i64.wrap ((heldI x 0 1000000000) + c.b)))) - c.c)), nt 0, nt 1000000000] (some 58) (pheld_spec (IntKind.i64.wrap ((IntKind.i64.wrap (Int.tdiv (IntKind.i64.wrap (c.a * 1000000000)) (IntKind.i64.wrap ((heldI x 0 1000000000) + c.b)))) - c.c)) 0 1000000000 _) ?_
  rintro _ w21 ⟨rfl, rfl⟩
  refine ⟨_, rfl, ?_⟩
  refine Gs [] [(4, nt (heldI (IntKind.i64.wrap ((IntKind.i64.wrap (Int.tdiv (IntKind.i64.wrap (c.a * 1000000000)) (IntKind.i64.wrap ((heldI x 0 1000000000) + c.b)))) - c.c)) 0 1000000000))] ?_
  refine GI_end ?_
  refine X_then ?_
  refine V_ret ?_
  refine X_ret_block ?_
  refine X_ret_then ?_
  exact X_return (nt (heldI (IntKind.i64.wrap ((IntKind.i64.wrap (Int.tdiv (IntKind.i64.wrap (c.a * 1000000000)) (IntKind.i64.wrap ((heldI x 0 1000000000) + c.b)))) - c.c)) 0 1000000000)) rfl ⟨by unfold atI; rw [if_neg hc4, if_neg hc12, if_pos hc19], hK0⟩
 refine V_skip ?_
 refine X_block ?_
 refine X_then ?_
 refine Vr ?_
 refine Os 1 [(4, nt 0)] ?_
 refine Oe ?_
 refine V_ret ?_
 exact X_return (nt 0) rfl ⟨by unfold atI; rw [if_neg hc4, if_neg hc12, if_neg hc19], hK0⟩
end Go.Al


namespace Go.Al
open Go Go.RowKit Go.Proofs
set_option maxRecDepth 10000 in
theorem trkIs_spec (x : Trk) (w : World) : Calls Tryz.prog 80 #[.agg x.cells.toArray] w fun e w' => e = .returned (.bool (decide (okTrk x))) ∧ Keep none_ w w' := by
 have hK0 : Keep none_ w w := Keep.refl _ _
 have hzhK0 := Keep.size hK0
 refine enterV Tryz.func80 rfl [.agg (Trk.cells x).toArray] 51 rfl rfl rfl ?_
 refine V_pick [(0, .agg (Trk.cells x).toArray)] rfl ?_
 refine Vr ?_
 refine OI_box 27 (.tmp 0) (.agg (Trk.cells x).toArray) (Trk.cells x) (some 1) (by kernel_rfl) (by kernel_rfl) rfl ?_
 intro b1 w1 e1 hb1 k1 z1
 have hsz2 := Keep.size k1
 replace hK0 := Keep.tr hK0 (Keep.ofNone k1)
 have hb1lt := hb1.lt
 refine Os 2 [(1, pt b1)] ?_
 refine Oer ?_
 refine Os 1 [(1, pt b1), (3, pt b1)] ?_
 refine Oc 3 (.tmp 3) 0 (nt x.most) (some 4) hb1 rfl ?_
 refine Ok { callee := (Callee.value (Operand.func 120)), args := #[(Operand.tmp 4), (Operand.const (Value.int IntKind.i64 1)), (Operand.const (Value.int IntKind.i64 12))], argTypes := #[3, 3, 3] } 120 #[nt x.most, nt 1, nt 12] (some 5) (tIn_spec x.most 1 12 _) ?_
 rintro _ w1 ⟨rfl, rfl⟩
 refine ⟨_, rfl, ?_⟩
 refine Os 4 [(1, pt b1), (6, .bool (decide ((1 : Int) ≤ x.most ∧ x.most ≤ 12)))] ?_
 by_cases hg6 : (1 : Int) ≤ x.most ∧ x.most ≤ 12
 ·
  refine OI_eq [(1, pt b1), (6, .bool true)] (by first | simp [hg6] | rfl) ?_
  refine Os 5 [(1, pt b1), (6, .bool true), (7, .pointer (some ⟨b1, 1, none⟩))] ?_
  refine Oc 3 (.tmp 7) 1 (nt x.deposit) (some 8) hb1 rfl ?_
  refine Ok { callee := (Callee.value (Operand.func 120)), args := #[(Operand.tmp 8), (Operand.const (Value.int IntKind.i64 0)), (Operand.const (Value.int IntKind.i64 1073741824))], argTypes := #[3, 3, 3] } 120 #[nt x.deposit, nt 0, nt 1073741824] (some 9) (tIn_spec x.deposit 0 1073741824 _) ?_
  rintro _ w1 ⟨rfl, rfl⟩
  refine ⟨_, rfl, ?_⟩
  refine Os 9 [(1, pt b1), (11, .bool (decide ((0 : Int) ≤ x.deposit ∧ x.deposit ≤ 1073741824)))] ?_
  by_cases hg10 : (0 : Int) ≤ x.deposit ∧ x.deposit ≤ 1073741824
  ·
   refine OI_eq [(1, pt b1), (11, .bool true)] (by first | simp [hg10] | rfl) ?_
   refine Os 10 [(1, pt b1), (11, .bool true), (12, .pointer (some ⟨b1, 16, none⟩))] ?_
   refine Oc 3 (.tmp 12) 16 (nt x.cap) (some 13) hb1 rfl ?_
   refine Ok { callee := (Callee.value (Operand.func 120)), args := #[(Operand.tmp 13), (Operand.const (Value.int IntKind.i64 0)), (Operand.const (Value.int IntKind.i64 1073741824))], argTypes := #[3, 3, 3] } 120 #[nt x.cap, nt 0, nt 1073741824] (some 14) (tIn_spec x.cap 0 1073741824 _) ?_
   rintro _ w1 ⟨rfl, rfl⟩
   refine ⟨_, rfl, ?_⟩
   refine Os 14 [(1, pt b1), (16, .bool (decide ((0 : Int) ≤ x.cap ∧ x.cap ≤ 1073741824)))] ?_
   by_cases hg14 : (0 : Int) ≤ x.cap ∧ x.cap ≤ 1073741824
   ·
    refine OI_eq [(1, pt b1), (16, .bool true)] (by first | simp [hg14] | rfl) ?_
    refine Os 15 [(1, pt b1), (16, .bool true), (17, .pointer (some ⟨b1, 2, none⟩))] ?_
    refine Oc 3 (.tmp 17) 2 (nt x.prepare) (some 18) hb1 rfl ?_
    refine Ok { callee := (Callee.value (Operand.func 120)), args := #[(Operand.tmp 18), (Operand.const (Value.int IntKind.i64 0)), (Operand.const (Value.int IntKind.i64 1000))], argTypes := #[3, 3, 3] } 120 #[nt x.prepare, nt 0, nt 1000] (some 19) (tIn_spec x.prepare 0 1000 _) ?_
    rintro _ w1 ⟨rfl, rfl⟩
    refine ⟨_, rfl, ?_⟩
    refine Os 19 [(1, pt b1), (21, .bool (decide ((0 : Int) ≤ x.prepare ∧ x.prepare ≤ 1000)))] ?_
    by_cases hg18 : (0 : Int) ≤ x.prepare ∧ x.prepare ≤ 1000
    ·
     refine OI_eq [(1, pt b1), (21, .bool true)] (by first | simp [hg18] | rfl) ?_
     refine Os 20 [(1, pt b1), (21, .bool true), (22, .pointer (some ⟨b1, 4, none⟩))] ?_
     refine Oc 3 (.tmp 22) 4 (nt x.confirm) (some 23) hb1 rfl ?_
     refine Ok { callee := (Callee.value (Operand.func 120)), args := #[(Operand.tmp 23), (Operand.const (Value.int IntKind.i64 0)), (Operand.const (Value.int IntKind.i64 1000))], argTypes := #[3, 3, 3] } 120 #[nt x.confirm, nt 0, nt 1000] (some 24) (tIn_spec x.confirm 0 1000 _) ?_
     rintro _ w1 ⟨rfl, rfl⟩
     refine ⟨_, rfl, ?_⟩
     refine Os 24 [(1, pt b1), (26, .bool (decide ((0 : Int) ≤ x.confirm ∧ x.confirm ≤ 1000)))] ?_
     by_cases hg22 : (0 : Int) ≤ x.confirm ∧ x.confirm ≤ 1000
     ·
      refine OI_eq [(1, pt b1), (26, .bool true)] (by first | simp [hg22] | rfl) ?_
      refine Os 25 [(1, pt b1), (26, .bool true), (27, .pointer (some ⟨b1, 5, none⟩))] ?_
      refine Oc 3 (.tmp 27) 5 (nt x.enact) (some 28) hb1 rfl ?_
      refine Ok { callee := (Callee.value (Operand.func 120)), args := #[(Operand.tmp 28), (Operand.const (Value.int IntKind.i64 0)), (Operand.const (Value.int IntKind.i64 1000))], argTypes := #[3, 3, 3] } 120 #[nt x.enact, nt 0, nt 1000] (some 29) (tIn_spec x.enact 0 1000 _) ?_
      rintro _ w1 ⟨rfl, rfl⟩
      refine ⟨_, rfl, ?_⟩
      refine Os 29 [(1, pt b1), (31, .bool (decide ((0 : Int) ≤ x.enact ∧ x.enact ≤ 1000)))] ?_
      by_cases hg26 : (0 : Int) ≤ x.enact ∧ x.enact ≤ 1000
      ·
       refine OI_eq [(1, pt b1), (31, .bool true)] (by first | simp [hg26] | rfl) ?_
       refine Os 30 [(1, pt b1), (31, .bool true), (32, .pointer (some ⟨b1, 3, none⟩))] ?_
       refine Oc 3 (.tmp 32) 3 (nt x.decision) (some 33) hb1 rfl ?_
       refine Ok { callee := (Callee.value (Operand.func 120)), args := #[(Operand.tmp 33), (Operand.const (Value.int IntKind.i64 1)), (Operand.const (Value.int IntKind.i64 1000))], argTypes := #[3, 3, 3] } 120 #[nt x.decision, nt 1, nt 1000] (some 34) (tIn_spec x.decision 1 1000 _) ?_
       rintro _ w1 ⟨rfl, rfl⟩
       refine ⟨_, rfl, ?_⟩
       refine Os 34 [(1, pt b1), (36, .bool (decide ((1 : Int) ≤ x.decision ∧ x.decision ≤ 1000)))] ?_
       by_cases hg30 : (1 : Int) ≤ x.decision ∧ x.decision ≤ 1000
       ·
        refine OI_eq [(1, pt b1), (36, .bool true)] (by first | simp [hg30] | rfl) ?_
        refine Os 35 [(1, pt b1), (36, .bool true), (37, .pointer (some ⟨b1, 6, none⟩))] ?_
        refine Oa 25 (.tmp 37) 6 (Crv.cells x.app) (some 38) 5 hb1 rfl rfl ?_
        refine Ok { callee := (Callee.value (Operand.func 121)), args := #[(Operand.tmp 38)], argTypes := #[25] } 121 #[.agg (Crv.cells x.app).toArray] (some 39) (perIs_spec x.app _) ?_
        rintro _ w31 ⟨rfl, hk32⟩
        refine ⟨_, rfl, ?_⟩
        have hsz33 := Keep.size hk32
        replace hb1 := hb1.keep hk32 (fun f => f)
        replace hK0 := Keep.tr hK0 (Keep.ofNone hk32)
        refine Os 39 [(1, pt b1), (41, .bool (decide (okCrv x.app)))] ?_
        by_cases hg34 : okCrv x.app
        ·
         refine OI_eq [(1, pt b1), (41, .bool true)] (by first | simp [hg34] | rfl) ?_
         refine Os 40 [(1, pt b1), (41, .bool true), (42, .pointer (some ⟨b1, 11, none⟩))] ?_
         refine Oa 25 (.tmp 42) 11 (Crv.cells x.sup) (some 43) 5 hb1 rfl rfl ?_
         refine Ok { callee := (Callee.value (Operand.func 121)), args := #[(Operand.tmp 43)], argTypes := #[25] } 121 #[.agg (Crv.cells x.sup).toArray] (some 44) (perIs_spec x.sup _) ?_
         rintro _ w35 ⟨rfl, hk36⟩
         refine ⟨_, rfl, ?_⟩
         have hsz37 := Keep.size hk36
         replace hb1 := hb1.keep hk36 (fun f => f)
         replace hK0 := Keep.tr hK0 (Keep.ofNone hk36)
         refine Os 44 [(1, pt b1), (46, .bool (decide (okCrv x.sup)))] ?_
         by_cases hg38 : okCrv x.sup
         ·
          refine OI_eq [(1, pt b1), (46, .bool true)] (by first | simp [hg38] | rfl) ?_
          refine Os 45 [(46, .bool true), (47, .pointer (some ⟨b1, 17, none⟩))] ?_
          refine Oc 3 (.tmp 47) 17 (nt x.rank) (some 48) hb1 rfl ?_
          refine Ok { callee := (Callee.value (Operand.func 120)), args := #[(Operand.tmp 48), (Operand.const (Value.int IntKind.i64 0)), (Operand.const (Value.int IntKind.i64 2))], argTypes := #[3, 3, 3] } 120 #[nt x.rank, nt 0, nt 2] (some 49) (tIn_spec x.rank 0 2 _) ?_
          rintro _ w35 ⟨rfl, rfl⟩
          refine ⟨_, rfl, ?_⟩
          refine Os 49 [(2, .bool (decide ((0 : Int) ≤ x.rank ∧ x.rank ≤ 2)))] ?_
          refine Oe ?_
          refine V_ret ?_
          exact X_return (.bool (decide ((0 : Int) ≤ x.rank ∧ x.rank ≤ 2))) rfl ⟨by congr 2; first | (apply Eq.symm; (try simp only [decide_eq_true_eq]); (try simp only [decide_eq_false_iff_not]); unfold okTrk; simp_all <;> omega) | (rw [decide_eq_decide]; unfold okTrk; simp_all <;> omega), hK0⟩
         refine OI_eq [(1, pt b1), (46, .bool false)] (by first | simp [hg38] | rfl) ?_
         refine Os 49 [(2, .bool false)] ?_
         refine Oe ?_
         refine V_ret ?_
         exact X_return (.bool false) rfl ⟨by congr 2; first | (apply Eq.symm; (try simp only [decide_eq_true_eq]); (try simp only [decide_eq_false_iff_not]); unfold okTrk; simp_all <;> omega) | (rw [decide_eq_decide]; unfold okTrk; simp_all <;> omega), hK0⟩
        refine OI_eq [(1, pt b1), (41, .bool false)] (by first | simp [hg34] | rfl) ?_
        refine Os 49 [(2, .bool false)] ?_
        refine Oe ?_
        refine V_ret ?_
        exact X_return (.bool false) rfl ⟨by congr 2; first | (apply Eq.symm; (try simp only [decide_eq_true_eq]); (try simp only [decide_eq_false_iff_not]); unfold okTrk; simp_all <;> omega) | (rw [decide_eq_decide]; unfold okTrk; simp_all <;> omega), hK0⟩
       refine OI_eq [(1, pt b1), (36, .bool false)] (by first | simp [hg30] | rfl) ?_
       refine Os 49 [(2, .bool false)] ?_
       refine Oe ?_
       refine V_ret ?_
       exact X_return (.bool false) rfl ⟨by congr 2; first | (apply Eq.symm; (try simp only [decide_eq_true_eq]); (try simp only [decide_eq_false_iff_not]); unfold okTrk; simp_all <;> omega) | (rw [decide_eq_decide]; unfold okTrk; simp_all <;> omega), hK0⟩
      refine OI_eq [(1, pt b1), (31, .bool false)] (by first | simp [hg26] | rfl) ?_
      refine Os 49 [(2, .bool false)] ?_
      refine Oe ?_
      refine V_ret ?_
      exact X_return (.bool false) rfl ⟨by congr 2; first | (apply Eq.symm; (try simp only [decide_eq_true_eq]); (try simp only [decide_eq_false_iff_not]); unfold okTrk; simp_all <;> omega) | (rw [decide_eq_decide]; unfold okTrk; simp_all <;> omega), hK0⟩
     refine OI_eq [(1, pt b1), (26, .bool false)] (by first | simp [hg22] | rfl) ?_
     refine Os 49 [(2, .bool false)] ?_
     refine Oe ?_
     refine V_ret ?_
     exact X_return (.bool false) rfl ⟨by congr 2; first | (apply Eq.symm; (try simp only [decide_eq_true_eq]); (try simp only [decide_eq_false_iff_not]); unfold okTrk; simp_all <;> omega) | (rw [decide_eq_decide]; unfold okTrk; simp_all <;> omega), hK0⟩
    refine OI_eq [(1, pt b1), (21, .bool false)] (by first | simp [hg18] | rfl) ?_
    refine Os 49 [(2, .bool false)] ?_
    refine Oe ?_
    refine V_ret ?_
    exact X_return (.bool false) rfl ⟨by congr 2; first | (apply Eq.symm; (try simp only [decide_eq_true_eq]); (try simp only [decide_eq_false_iff_not]); unfold okTrk; simp_all <;> omega) | (rw [decide_eq_decide]; unfold okTrk; simp_all <;> omega), hK0⟩
   refine OI_eq [(1, pt b1), (16, .bool false)] (by first | simp [hg14] | rfl) ?_
   refine Os 49 [(2, .bool false)] ?_
   refine Oe ?_
   refine V_ret ?_
   exact X_return (.bool false) rfl ⟨by congr 2; first | (apply Eq.symm; (try simp only [decide_eq_true_eq]); (try simp only [decide_eq_false_iff_not]); unfold okTrk; simp_all <;> omega) | (rw [decide_eq_decide]; unfold okTrk; simp_all <;> omega), hK0⟩
  refine OI_eq [(1, pt b1), (11, .bool false)] (by first | simp [hg10] | rfl) ?_
  refine Os 49 [(2, .bool false)] ?_
  refine Oe ?_
  refine V_ret ?_
  exact X_return (.bool false) rfl ⟨by congr 2; first | (apply Eq.symm; (try simp only [decide_eq_true_eq]); (try simp only [decide_eq_false_iff_not]); unfold okTrk; simp_all <;> omega) | (rw [decide_eq_decide]; unfold okTrk; simp_all <;> omega), hK0⟩
 refine OI_eq [(1, pt b1), (6, .bool false)] (by first | simp [hg6] | rfl) ?_
 refine Os 49 [(2, .bool false)] ?_
 refine Oe ?_
 refine V_ret ?_
 exact X_return (.bool false) rfl ⟨by congr 2; first | (apply Eq.symm; (try simp only [decide_eq_true_eq]); (try simp only [decide_eq_false_iff_not]); unfold okTrk; simp_all <;> omega) | (rw [decide_eq_decide]; unfold okTrk; simp_all <;> omega), hK0⟩

set_option maxRecDepth 10000 in
theorem shares_spec (y : Tly) (iss : Int) (w : World) : Calls Tryz.prog 154 #[.agg y.cells.toArray, .int .i64 iss] w fun e w' => e = .returned (.tuple #[.int .i64 (apprI y), .int .i64 (ratioI y.s iss)]) ∧ Keep none_ w w' := by
 have hK0 : Keep none_ w w := Keep.refl _ _
 have hzhK0 := Keep.size hK0
 refine enterV Tryz.func154 rfl [.agg (Tly.cells y).toArray, nt iss] 18 rfl rfl rfl ?_
 refine V_pick [(0, .agg (Tly.cells y).toArray), (1, nt iss)] rfl ?_
 refine Vr ?_
 refine OI_box 55 (.tmp 0) (.agg (Tly.cells y).toArray) (Tly.cells y) (some 2) (by kernel_rfl) (by kernel_rfl) rfl ?_
 intro b1 w1 e1 hb1 k1 z1
 have hsz2 := Keep.size k1
 replace hK0 := Keep.tr hK0 (Keep.ofNone k1)
 have hb1lt := hb1.lt
 refine Os 3 [(1, nt iss), (2, pt b1)] ?_
 refine Oe ?_
 refine V_seq ?_
 refine V_draws (acts [7, 11]) none_ [[0, 1, 2, 3, 4, 5, 6, 7, 8, 9, 10, 11, 12, 13]] (by kernel_rfl) (by repeat first | exact sure_body (by rintro _ _ ⟨h, _⟩; exact ⟨_, h⟩) | refine sure_then ?_ | refine sure_block ?_ | refine sure_join ?_) (by kernel_rfl) ?_
 intro w4 hk3 he5 L hL6
 have hsz7 := Keep.size hk3
 replace hb1 := hb1.keep hk3 (fun f => f)
 replace hK0 := Keep.tr hK0 (Keep.ofNone hk3)
 have qhb1 := hb1
 have K8 : Keep none_ w4 w4 := Keep.refl _ _
 obtain rfl := List.mem_singleton.1 hL6
 refine Gs [1, 2, 3, 4, 5, 6, 7, 8, 9, 10, 11, 12, 13] [(1, nt iss), (2, pt b1), (6, pt b1)] ?_
 refine Gc0 3 (.tmp 6) 0 (nt y.a) (some 7) qhb1 rfl ?_
 refine Gs [3, 4, 5, 6, 7, 8, 9, 10, 11, 12, 13] [(1, nt iss), (2, pt b1), (7, nt y.a), (8, pt b1)] ?_
 refine Gc0 3 (.tmp 8) 0 (nt y.a) (some 9) qhb1 rfl ?_
 refine Gs [5, 6, 7, 8, 9, 10, 11, 12, 13] [(1, nt iss), (2, pt b1), (7, nt y.a), (9, nt y.a), (10, .pointer (some ⟨b1, 1, none⟩))] ?_
 refine Gc0 3 (.tmp 10) 1 (nt y.n) (some 11) qhb1 rfl ?_
 refine Gs [7, 8, 9, 10, 11, 12, 13] [(1, nt iss), (2, pt b1), (7, nt y.a), (12, nt (IntKind.i64.wrap (y.a + y.n)))] ?_
 refine Gk { callee := (Callee.value (Operand.func 153)), args := #[(Operand.tmp 7), (Operand.tmp 12)], argTypes := #[3, 3] } 153 #[nt y.a, nt (IntKind.i64.wrap (y.a + y.n))] (some 13) (ratio_spec y.a (IntKind.i64.wrap (y.a + y.n)) _) ?_
 rintro _ w4 ⟨rfl, rfl⟩
 refine ⟨_, rfl, K8, ?_⟩
 refine Gs [9, 10, 11, 12, 13] [(1, nt iss), (13, nt (ratioI y.a (IntKind.i64.wrap (y.a + y.n)))), (14, .pointer (some ⟨b1, 2, none⟩))] ?_
 refine Gc0 3 (.tmp 14) 2 (nt y.s) (some 15) qhb1 rfl ?_
 refine Gs [11, 12, 13] [(13, nt (ratioI y.a (IntKind.i64.wrap (y.a + y.n)))), (15, nt y.s), (16, nt iss)] ?_
 refine Gk0 { callee := (Callee.value (Operand.func 153)), args := #[(Operand.tmp 15), (Operand.tmp 16)], argTypes := #[3, 3] } 153 #[nt y.s, nt iss] (some 17) (ratio_spec y.s iss _) ?_
 rintro _ w4 ⟨rfl, rfl⟩
 refine ⟨_, rfl, ?_⟩
 refine Gs [] [(4, nt (ratioI y.a (IntKind.i64.wrap (y.a + y.n)))), (5, nt (ratioI y.s iss))] ?_
 refine GI_end ?_
 refine X_then ?_
 refine V_ret ?_
 exact X_return _ rfl ⟨rfl, hK0⟩

set_option maxRecDepth 10000 in
theorem passing_spec (x : Trk) (y : Tly) (iss el : Int) (w : World) (ha : okCrv x.app) (hs : okCrv x.sup) : Calls Tryz.prog 104 #[.agg x.cells.toArray, .agg y.cells.toArray, .int .i64 iss, .int .i64 el] w fun e w' => e = .returned (.bool (passB x y iss el)) ∧ Keep none_ w w' := by
 have hK0 : Keep none_ w w := Keep.refl _ _
 have hzhK0 := Keep.size hK0
 refine enterV Tryz.func104 rfl [.agg (Trk.cells x).toArray, .agg (Tly.cells y).toArray, nt iss, nt el] 39 rfl rfl rfl ?_
 refine V_pick [(0, .agg (Trk.cells x).toArray), (1, .agg (Tly.cells y).toArray), (2, nt iss), (3, nt el)] rfl ?_
 refine Vr ?_
 refine OI_box 27 (.tmp 0) (.agg (Trk.cells x).toArray) (Trk.cells x) (some 4) (by kernel_rfl) (by kernel_rfl) rfl ?_
 intro b1 w1 e1 hb1 k1 z1
 have hsz2 := Keep.size k1
 replace hK0 := Keep.tr hK0 (Keep.ofNone k1)
 have hb1lt := hb1.lt
 refine OI_box 55 (.tmp 1) (.agg (Tly.cells y).toArray) (Tly.cells y) (some 5) (by kernel_rfl) (by kernel_rfl) rfl ?_
 intro b3 w3 e3 hb3 k3 z3
 have hsz4 := Keep.size k3
 replace hb1 := hb1.keep k3 (fun f => f)
 replace hK0 := Keep.tr hK0 (Keep.ofNone k3)
 have hb3lt := hb3.lt
 refine Os 3 [(2, nt iss), (3, nt el), (4, pt b1), (5, pt b3)] ?_
 refine Oer ?_
 refine Os 2 [(2, nt iss), (4, pt b1), (5, pt b3), (12, nt el), (13, .pointer (some ⟨b1, 3, none⟩))] ?_
 refine Oc 3 (.tmp 13) 3 (nt x.decision) (some 14) hb1 rfl ?_
 refine Os 5 [(2, nt iss), (4, pt b1), (5, pt b3), (15, nt (imin el x.decision)), (16, .pointer (some ⟨b1, 3, none⟩))] ?_
 refine Oc 3 (.tmp 16) 3 (nt x.decision) (some 17) hb1 rfl ?_
 refine Ok { callee := (Callee.value (Operand.func 153)), args := #[(Operand.tmp 15), (Operand.tmp 17)], argTypes := #[3, 3] } 153 #[nt (imin el x.decision), nt x.decision] (some 18) (ratio_spec (imin el x.decision) x.decision _) ?_
 rintro _ w3 ⟨rfl, rfl⟩
 refine ⟨_, rfl, ?_⟩
 refine Os 8 [(2, nt iss), (4, pt b1), (5, pt b3), (9, nt (ratioI (imin el x.decision) x.decision))] ?_
 refine Oer ?_
 refine Oa 55 (.tmp 5) 0 (Tly.cells y) (some 20) 3 hb3 (take_all (Tly.len _)) (Tly.len _) ?_
 refine Os 2 [(4, pt b1), (9, nt (ratioI (imin el x.decision) x.decision)), (20, .agg (Tly.cells y).toArray), (21, nt iss)] ?_
 refine Ok { callee := (Callee.value (Operand.func 154)), args := #[(Operand.tmp 20), (Operand.tmp 21)], argTypes := #[55, 3] } 154 #[.agg (Tly.cells y).toArray, nt iss] (some 22) (shares_spec y iss _) ?_
 rintro _ w8 ⟨rfl, hk9⟩
 refine ⟨_, rfl, ?_⟩
 have hsz10 := Keep.size hk9
 replace hb1 := hb1.keep hk9 (fun f => f)
 replace hb3 := hb3.keep hk9 (fun f => f)
 replace hK0 := Keep.tr hK0 (Keep.ofNone hk9)
 refine Os 8 [(4, pt b1), (9, nt (ratioI (imin el x.decision) x.decision)), (10, nt (apprI y)), (11, nt (ratioI y.s iss))] ?_
 refine Oer ?_
 refine Os 2 [(4, pt b1), (9, nt (ratioI (imin el x.decision) x.decision)), (11, nt (ratioI y.s iss)), (25, nt (apprI y)), (26, .pointer (some ⟨b1, 6, none⟩))] ?_
 refine Oa 25 (.tmp 26) 6 (Crv.cells x.app) (some 27) 5 hb1 rfl rfl ?_
 refine Os 4 [(4, pt b1), (9, nt (ratioI (imin el x.decision) x.decision)), (11, nt (ratioI y.s iss)), (25, nt (apprI y)), (27, .agg (Crv.cells x.app).toArray), (28, nt (ratioI (imin el x.decision) x.decision))] ?_
 refine Ok { callee := (Callee.value (Operand.func 155)), args := #[(Operand.tmp 27), (Operand.tmp 28)], argTypes := #[25, 3] } 155 #[.agg (Crv.cells x.app).toArray, nt (ratioI (imin el x.decision) x.decision)] (some 29) (perAt_spec x.app (ratioI (imin el x.decision) x.decision) _ ha) ?_
 rintro _ w11 ⟨rfl, hk12⟩
 refine ⟨_, rfl, ?_⟩
 have hsz13 := Keep.size hk12
 replace hb1 := hb1.keep hk12 (fun f => f)
 replace hb3 := hb3.keep hk12 (fun f => f)
 replace hK0 := Keep.tr hK0 (Keep.ofNone hk12)
 refine Os 7 [(4, pt b1), (9, nt (ratioI (imin el x.decision) x.decision)), (11, nt (ratioI y.s iss)), (31, .bool (decide (apprI y ≥ atI x.app (ratioI (imin el x.decision) x.decision))))] ?_
 by_cases hg14 : apprI y ≥ atI x.app (ratioI (imin el x.decision) x.decision)
 ·
  refine OI_eq [(4, pt b1), (9, nt (ratioI (imin el x.decision) x.decision)), (11, nt (ratioI y.s iss)), (31, .bool true)] (by first | simp [hg14] | rfl) ?_
  refine Os 9 [(9, nt (ratioI (imin el x.decision) x.decision)), (31, .bool true), (32, nt (ratioI y.s iss)), (33, .pointer (some ⟨b1, 11, none⟩))] ?_
  refine Oa 25 (.tmp 33) 11 (Crv.cells x.sup) (some 34) 5 hb1 rfl rfl ?_
  refine Os 11 [(31, .bool true), (32, nt (ratioI y.s iss)), (34, .agg (Crv.cells x.sup).toArray), (35, nt (ratioI (imin el x.decision) x.decision))] ?_
  refine Ok { callee := (Callee.value (Operand.func 155)), args := #[(Operand.tmp 34), (Operand.tmp 35)], argTypes := #[25, 3] } 155 #[.agg (Crv.cells x.sup).toArray, nt (ratioI (imin el x.decision) x.decision)] (some 36) (perAt_spec x.sup (ratioI (imin el x.decision) x.decision) _ hs) ?_
  rintro _ w15 ⟨rfl, hk16⟩
  refine ⟨_, rfl, ?_⟩
  have hsz17 := Keep.size hk16
  replace hb1 := hb1.keep hk16 (fun f => f)
  replace hb3 := hb3.keep hk16 (fun f => f)
  replace hK0 := Keep.tr hK0 (Keep.ofNone hk16)
  refine Os 15 [(8, .bool (decide (ratioI y.s iss ≥ atI x.sup (ratioI (imin el x.decision) x.decision))))] ?_
  refine Oe ?_
  refine V_ret ?_
  exact X_return (.bool (decide (ratioI y.s iss ≥ atI x.sup (ratioI (imin el x.decision) x.decision)))) rfl ⟨by unfold passB; simp [*], hK0⟩
 refine OI_eq [(4, pt b1), (9, nt (ratioI (imin el x.decision) x.decision)), (11, nt (ratioI y.s iss)), (31, .bool false)] (by first | simp [hg14] | rfl) ?_
 refine Os 15 [(8, .bool false)] ?_
 refine Oe ?_
 refine V_ret ?_
 exact X_return (.bool false) rfl ⟨by unfold passB; simp [*], hK0⟩
end Go.Al


namespace Go.Al
open Go Go.RowKit Go.Proofs
/-! ### The referenda of a Refer, as a grid's only row -/
def cellsQ : Nat → List Rfm → List GQ.Ci
  | _, [] => []
  | i, x :: l => ⟨0, (i : Int), x⟩ :: cellsQ (i + 1) l
def zipQ : Nat → List Rfm → List (Int × Rfm)
  | _, [] => []
  | i, x :: l => ((i : Int), x) :: zipQ (i + 1) l
theorem cellsQ_len : ∀ (i : Nat) (l : List Rfm), (cellsQ i l).length = l.length
  | _, [] => rfl
  | i, x :: l => by simp only [cellsQ, List.length_cons, cellsQ_len]
theorem zipQ_len : ∀ (i : Nat) (l : List Rfm), (zipQ i l).length = l.length
  | _, [] => rfl
  | i, x :: l => by simp only [zipQ, List.length_cons, zipQ_len]
theorem zipQ_at : ∀ (l : List Rfm) (i k : Nat) (x : Rfm), l[k]? = some x → (zipQ i l)[k]? = some (((i + k : Nat) : Int), x)
  | [], _, _, _, h => by cases h
  | y :: l, i, 0, x, h => by simp only [List.getElem?_cons_zero, Option.some.injEq] at h; subst h; rfl
  | y :: l, i, k + 1, x, h => by
    simp only [zipQ, List.getElem?_cons_succ] at h ⊢
    rw [zipQ_at l (i + 1) k x h]
    congr 2; omega
theorem rowQ : ∀ (i : Nat) (l : List Rfm), GQ.rowL 0 (cellsQ i l) = zipQ i l
  | _, [] => rfl
  | i, x :: l => by
    have := rowQ (i + 1) l
    unfold GQ.rowL at this ⊢
    simp only [cellsQ, zipQ, List.filter_cons, beq_self_eq_true, if_true, List.map_cons, this]
theorem getQ : ∀ (l : List Rfm) (i : Nat) (ref : Int), GQ.getC 0 ref (cellsQ i l) = if (i : Int) ≤ ref then l[(ref - i).toNat]? else none
  | [], i, ref => by simp [cellsQ, GQ.getC]
  | x :: l, i, ref => by
    simp only [cellsQ, GQ.getC, true_and]
    by_cases h : (i : Int) = ref
    · rw [if_pos h, if_pos (by omega), show (ref - i).toNat = 0 by omega]; rfl
    · rw [if_neg h, getQ l (i + 1) ref]
      by_cases h2 : (i : Int) ≤ ref
      · rw [if_pos (by omega), if_pos h2, show (ref - (i : Int)).toNat = (ref - ((i + 1 : Nat) : Int)).toNat + 1 by omega, List.getElem?_cons_succ]
      · rw [if_neg (by omega), if_neg h2]
theorem getQ0 (l : List Rfm) (ref : Int) : GQ.getC 0 ref (cellsQ 0 l) = getR l ref := by
  rw [getQ]; unfold getR
  by_cases h : 0 ≤ ref
  · by_cases h2 : ref < l.length
    · rw [if_pos (by omega), if_pos ⟨h, h2⟩]; congr 1; omega
    · rw [if_pos (by omega), if_neg (by omega), List.getElem?_eq_none (by omega)]
  · rw [if_neg (by omega), if_neg (by omega)]
theorem setQ (x : Rfm) : ∀ (l : List Rfm) (i j : Nat), j < l.length → GQ.setC 0 ((i + j : Nat) : Int) x (cellsQ i l) = cellsQ i (l.set j x)
  | [], _, _, h => by simp at h
  | y :: l, i, 0, _ => by
    simp only [cellsQ, GQ.setC, List.set_cons_zero]
    rw [if_pos ⟨trivial, by omega⟩, show ((i + 0 : Nat) : Int) = i by omega]
  | y :: l, i, j + 1, h => by
    simp only [cellsQ, GQ.setC, List.set_cons_succ]
    rw [if_neg (by omega), if_pos (.inr ⟨rfl, by show (i : Int) < _; omega⟩), show ((i + (j + 1) : Nat) : Int) = ((i + 1 + j : Nat) : Int) by omega, setQ x l (i + 1) j (by simpa using h)]
theorem setQ_new (x : Rfm) : ∀ (l : List Rfm) (i : Nat), GQ.setC 0 ((i + l.length : Nat) : Int) x (cellsQ i l) = cellsQ i (l ++ [x])
  | [], i => rfl
  | y :: l, i => by
    simp only [cellsQ, GQ.setC, List.cons_append, List.length_cons]
    rw [if_neg (by omega), if_pos (.inr ⟨rfl, by show (i : Int) < _; omega⟩), show ((i + (l.length + 1) : Nat) : Int) = ((i + 1 + l.length : Nat) : Int) by omega, setQ_new x l (i + 1)]
/-! ### The Refer -/
structure RfIn (ts : List Trk) (rs : List Rfm) : Prop where
  tl : ts.length ≤ 4
  tok : ∀ t ∈ ts, okTrk t
  rl : rs.length ≤ 12
  rtk : ∀ x ∈ rs, 0 ≤ x.track ∧ x.track < ts.length
structure RfrX (D : Nat → Prop) (A : Option Addr) (cap : Nat) (w : World) (r g : Nat) (ts : List Trk) (rs : List Rfm) : Prop where
  blk : Blk w r [.slice A ts.length cap, .pointer (some ⟨g, 0, none⟩)] 97
  sl : SlT w 18 Trk.cells A cap ts
  grd : GQ.Grd D w g (cellsQ 0 rs)
  dA : ∀ q, inA A q → ¬ D q
  rA : ∀ q, inA A q → q ≠ r
  rD : ∀ q, D q → q ≠ r
/-- The Refer at r, its grid at g, holds tracks and referenda; all of its blocks lie in F. -/
def Rfr (F : Nat → Prop) (w : World) (r g : Nat) (ts : List Trk) (rs : List Rfm) : Prop := RfIn ts rs ∧ (∀ q, F q → q < w.heap.size) ∧ ∃ D A cap, RfrX D A cap w r g ts rs ∧ F r ∧ (∀ q, D q → F q) ∧ (∀ q, inA A q → F q)
section
variable {F S : Nat → Prop} {w w' : World} {r g N : Nat} {ts : List Trk} {rs : List Rfm}
theorem Rfr.lt (h : Rfr F w r g ts rs) : ∀ q, F q → q < w.heap.size := h.2.1
theorem Rfr.inn (h : Rfr F w r g ts rs) : RfIn ts rs := h.1
theorem Rfr.at_ (h : Rfr F w r g ts rs) : F r := by obtain ⟨_, _, _, _, _, _, h, _⟩ := h; exact h
theorem Rfr.atg (h : Rfr F w r g ts rs) : F g := by obtain ⟨_, _, _, _, _, h, _, h2, _⟩ := h; exact h2 _ h.grd.at_
theorem Rfr.keep (h : Rfr F w r g ts rs) (k : Keep S w w') (hS : ∀ q, F q → ¬ S q) : Rfr F w' r g ts rs := by
  obtain ⟨h0, h1, D, A, cap, h2, h3, h4, h5⟩ := h
  exact ⟨h0, fun q hq => Nat.lt_of_lt_of_le (h1 q hq) k.size, D, A, cap, ⟨h2.blk.keep k (hS _ h3), h2.sl.keep k (fun q hq => hS q (h5 q hq)), h2.grd.keep k (fun q hq => hS q (h4 q hq)), h2.dA, h2.rA, h2.rD⟩, h3, h4, h5⟩
theorem Rfr.quiet (h : Rfr F w r g ts rs) (k : Keep (lb N w) w w') : Rfr F w' r g ts rs := by
  obtain ⟨h0, h1, D, A, cap, h2, h3, h4, h5⟩ := h
  exact ⟨h0, fun q hq => Nat.lt_of_lt_of_le (h1 q hq) k.size, D, A, cap, ⟨h2.blk.quiet k, h2.sl.quiet k, h2.grd.quiet k, h2.dA, h2.rA, h2.rD⟩, h3, h4, h5⟩
theorem Rfr.grq (h : Rfr F w r g ts rs) : ∃ D, GQ.Grd D w g (cellsQ 0 rs) := by obtain ⟨_, _, D, _, _, h, _⟩ := h; exact ⟨D, h.grd⟩
theorem Rfr.grqF (h : Rfr F w r g ts rs) : ∃ D, GQ.Grd D w g (cellsQ 0 rs) ∧ ∀ q, D q → F q := by obtain ⟨_, _, D, _, _, h, _, h2, _⟩ := h; exact ⟨D, h.grd, h2⟩
theorem Rfr.parts (h : Rfr F w r g ts rs) : ∃ A cap, Blk w r [.slice A ts.length cap, .pointer (some ⟨g, 0, none⟩)] 97 ∧ SlT w 18 Trk.cells A cap ts ∧ (∀ q, inA A q → F q ∧ q ≠ r ∧ q ≠ g) ∧ r ≠ g := by
  obtain ⟨h0, h1, D, A, cap, h2, h3, h4, h5⟩ := h
  exact ⟨A, cap, h2.blk, h2.sl, fun q hq => ⟨h5 q hq, h2.rA q hq, fun e => h2.dA q hq (e ▸ h2.grd.at_)⟩, fun e => h2.rD _ h2.grd.at_ e.symm⟩
end
theorem setQ_grdO {F : Nat → Prop} {g : Nat} {cs : List GQ.Ci} {a b : Int} {x : Rfm} {w : World} (h : GQ.Grd F w g cs) (hmax : cs.length < 100000) : Calls Tryz.prog 45 #[.pointer (some ⟨g, 0, none⟩), .int .i64 a, .int .i64 b, .agg (Rfm.cells x).toArray] w fun e w' => e = .returned (.tuple #[]) ∧ (∃ F', GQ.Grd F' w' g (GQ.setC a b x cs) ∧ (∀ q, F' q → F q ∨ w.heap.size ≤ q)) ∧ Keep (only g) w w' :=
  (GQ.set_spec (fun q => F q ∨ w.heap.size ≤ q) g cs a b x w (h.gr.mono (fun _ h => .inl h)) (fun _ h => .inr h) hmax).mono (by
    rintro e w' ⟨rfl, h1, h2⟩
    exact ⟨rfl, ⟨GQ.more F w w', GQ.Grd.of h1 (.inl h.at_) (fun q hq hD => hD.imp id (fun h => ⟨h, hq⟩)) (fun q hq => by rcases hq with hq | hq; exact Nat.lt_of_lt_of_le (h.lt q hq) h2.size; exact hq.2), fun q hq => hq.imp id (·.1)⟩, h2⟩)
theorem Rfr.turn {F : Nat → Prop} {w w' : World} {r g : Nat} {ts : List Trk} {rs rs' : List Rfm} {D D' : Nat → Prop} {A : Option Addr} {cap : Nat} (h1 : ∀ q, F q → q < w.heap.size) (h2 : RfrX D A cap w r g ts rs) (h3 : F r) (h4 : ∀ q, D q → F q) (h5 : ∀ q, inA A q → F q)
    (k : Keep (only g) w w') (hin : RfIn ts rs') (hG : GQ.Grd D' w' g (cellsQ 0 rs')) (hfr : ∀ q, D' q → D q ∨ w.heap.size ≤ q) : (∃ F', Rfr F' w' r g ts rs' ∧ ∀ q, F' q → F q ∨ w.heap.size ≤ q) := by
  have hg := h2.grd.at_
  refine ⟨fun q => F q ∨ D' q, ⟨hin, fun q hq => ?_, D', A, cap, ⟨h2.blk.keep k (fun e => h2.rD _ hg (show r = g from e).symm), h2.sl.keep k (fun q hq e => h2.dA q hq (by rw [show q = g from e]; exact hg)), hG, fun q hq hd => ?_, h2.rA, fun q hq e => ?_⟩, .inl h3, fun q hq => .inr hq, fun q hq => .inl (h5 q hq)⟩, ?_⟩
  · rcases hq with hq | hq
    · exact Nat.lt_of_lt_of_le (h1 q hq) k.size
    · exact hG.lt q hq
  · rcases hfr q hd with hd | hd
    · exact h2.dA q hq hd
    · have := h1 q (h5 q hq); omega
  · rcases hfr q hq with hd | hd
    · exact h2.rD q hd e
    · have := h1 r h3; omega
  · rintro q (hq | hq)
    · exact .inl hq
    · exact (hfr q hq).imp (h4 q) id
theorem rset_spec (F : Nat → Prop) (r g : Nat) (ts : List Trk) (rs : List Rfm) (ref : Int) (x : Rfm) (w : World) (h : Rfr F w r g ts rs) (hj : 0 ≤ ref ∧ ref < rs.length) (ht : 0 ≤ x.track ∧ x.track < ts.length) : Calls Tryz.prog 45 #[.pointer (some ⟨g, 0, none⟩), .int .i64 0, .int .i64 ref, .agg (Rfm.cells x).toArray] w fun e w' => e = .returned (.tuple #[]) ∧ (∃ F', Rfr F' w' r g ts (rs.set ref.toNat x) ∧ (∀ q, F' q → F q ∨ w.heap.size ≤ q)) ∧ Keep (only g) w w' := by
  obtain ⟨h0, h1, D, A, cap, h2, h3, h4, h5⟩ := h
  have hrl := h0.rl
  refine (setQ_grdO (a := 0) (b := ref) (x := x) h2.grd (by rw [cellsQ_len]; omega)).mono ?_
  rintro e w' ⟨rfl, ⟨D', hG, hfr⟩, hk⟩
  obtain ⟨j, rfl⟩ : ∃ j : Nat, ref = j := ⟨ref.toNat, by omega⟩
  have e1 := setQ x rs 0 j (by omega)
  rw [Nat.zero_add] at e1
  rw [e1] at hG
  refine ⟨rfl, Rfr.turn h1 h2 h3 h4 h5 hk ⟨h0.tl, h0.tok, by rw [List.length_set]; exact hrl, fun y hy => ?_⟩ hG hfr, hk⟩
  rcases List.mem_or_eq_of_mem_set hy with hy | rfl
  · exact h0.rtk y hy
  · exact ht
theorem rnew_spec (F : Nat → Prop) (r g : Nat) (ts : List Trk) (rs : List Rfm) (x : Rfm) (w : World) (h : Rfr F w r g ts rs) (hj : rs.length < 12) (ht : 0 ≤ x.track ∧ x.track < ts.length) : Calls Tryz.prog 45 #[.pointer (some ⟨g, 0, none⟩), .int .i64 0, .int .i64 ((rs.length : Nat) : Int), .agg (Rfm.cells x).toArray] w fun e w' => e = .returned (.tuple #[]) ∧ (∃ F', Rfr F' w' r g ts (rs ++ [x]) ∧ (∀ q, F' q → F q ∨ w.heap.size ≤ q)) ∧ Keep (only g) w w' := by
  obtain ⟨h0, h1, D, A, cap, h2, h3, h4, h5⟩ := h
  refine (setQ_grdO (a := 0) (b := (rs.length : Int)) (x := x) h2.grd (by rw [cellsQ_len]; omega)).mono ?_
  rintro e w' ⟨rfl, ⟨D', hG, hfr⟩, hk⟩
  have e1 := setQ_new x rs 0
  rw [Nat.zero_add] at e1
  rw [e1] at hG
  refine ⟨rfl, Rfr.turn h1 h2 h3 h4 h5 hk ⟨h0.tl, h0.tok, by simp; omega, fun y hy => ?_⟩ hG hfr, hk⟩
  rcases List.mem_append.1 hy with hy | hy
  · exact h0.rtk y hy
  · rw [List.mem_singleton.1 hy]; exact ht
theorem qlen_spec (F : Nat → Prop) (r g : Nat) (ts : List Trk) (rs : List Rfm) (w : World) (h : Rfr F w r g ts rs) : Calls Tryz.prog 41 #[.pointer (some ⟨g, 0, none⟩)] w fun e w' => e = .returned (.int .i64 ((rs.length : Nat) : Int)) ∧ w' = w := by
  obtain ⟨D, h⟩ := h.grq
  have := GQ.len_spec D g (cellsQ 0 rs) w h.gr
  rw [cellsQ_len] at this; exact this
theorem qget_spec (F : Nat → Prop) (r g : Nat) (ts : List Trk) (rs : List Rfm) (ref : Int) (w : World) (h : Rfr F w r g ts rs) : Calls Tryz.prog 53 #[.pointer (some ⟨g, 0, none⟩), .int .i64 0, .int .i64 ref] w fun e w' => e = .returned (.tuple #[.agg (getA rs ref).cells.toArray, .bool (getR rs ref).isSome]) ∧ Keep none_ w w' := by
  obtain ⟨D, h⟩ := h.grq
  have := GQ.get_spec D g (cellsQ 0 rs) 0 ref w h.gr
  rw [getQ0] at this; exact this
theorem getA_in {rs : List Rfm} {ts : List Trk} (h : RfIn ts rs) {ref : Int} {x : Rfm} (hx : getR rs ref = some x) : (0 ≤ ref ∧ ref < rs.length) ∧ (0 ≤ x.track ∧ x.track < ts.length) ∧ rs[ref.toNat]? = some x ∧ getA rs ref = x := by
  have hx0 := hx
  unfold getR at hx
  split at hx
  · rename_i hr
    exact ⟨hr, h.rtk x (List.mem_of_getElem? hx), hx, by unfold getA; rw [hx0]; rfl⟩
  · cases hx
theorem trkA_at {ts : List Trk} {i : Int} (h : 0 ≤ i ∧ i < ts.length) : ∃ j : Nat, i = (j : Int) ∧ j < ts.length ∧ ts[j]? = some (trkA ts i) ∧ trkA ts i ∈ ts := by
  obtain ⟨j, rfl⟩ : ∃ j : Nat, i = j := ⟨i.toNat, by omega⟩
  have hj : j < ts.length := by omega
  have e : trkA ts (j : Int) = ts[j] := by unfold trkA trkO; rw [if_pos h, Int.toNat_natCast, List.getElem?_eq_getElem hj]; rfl
  exact ⟨j, rfl, hj, by rw [e, List.getElem?_eq_getElem hj], by rw [e]; exact List.getElem_mem hj⟩
end Go.Al


namespace Go.Al
open Go Go.RowKit Go.Proofs
theorem sink_at {A1 A2 R ys : List Int} {x : Int} {j : Nat} (h : ys = A2.reverse ++ x :: (A1.reverse ++ R)) (hj : j = A2.length) : ys[j]? = some x := by
  subst h hj
  rw [List.getElem?_append_right (by simp)]; simp
theorem sink_prev {A1 A2 R ys : List Int} {x y : Int} {j : Nat} (h : ys = A2.reverse ++ x :: (A1.reverse ++ R)) (hj : j = A2.length) (h0 : 0 < j) (hy : ys[j - 1]? = some y) : ∃ B, A2 = y :: B ∧ (ys.set j y).set (j - 1) x = B.reverse ++ x :: ((A1 ++ [y]).reverse ++ R) := by
  subst h hj
  cases A2 with
  | nil => simp at h0
  | cons z B =>
    have hb : B.reverse.length = B.length := List.length_reverse
    have e1 : (z :: B).length - 1 = B.reverse.length := by simp
    have e2 : (z :: B).length = B.reverse.length + 1 := by simp
    rw [e1, List.reverse_cons, List.append_assoc, List.getElem?_append_right (Nat.le_refl _), Nat.sub_self] at hy
    simp only [List.singleton_append, List.getElem?_cons_zero, Option.some.injEq] at hy
    subst hy
    refine ⟨B, rfl, ?_⟩
    rw [e1, e2, List.reverse_cons, List.append_assoc, List.set_append_right _ _ (by omega), Nat.add_sub_cancel_left]
    simp only [List.singleton_append, List.set_cons_succ, List.set_cons_zero]
    rw [List.set_append_right _ _ (by omega), Nat.sub_self]
    simp only [List.set_cons_zero, List.reverse_append, List.reverse_cons, List.reverse_nil, List.nil_append, List.cons_append]
theorem sink_go {key : Int → Int} {x y : Int} {B : List Int} (h : key x > key y) : sink key x (y :: B) = y :: sink key x B := by simp only [sink]; rw [if_pos h]
theorem sink_stop {key : Int → Int} {x y : Int} {B : List Int} (h : ¬ key x > key y) : sink key x (y :: B) = x :: y :: B := by simp only [sink]; rw [if_neg h]
theorem cmpI_neg {a b : Int} : cmpI a b < 0 ↔ a < b := by
  unfold cmpI
  split
  · simp [*]
  · split <;> simp_all
theorem sinks_step {key : Int → Int} {xs : List Int} {i : Nat} {x : Int} (h : xs[i]? = some x) : (xs.take (i + 1)).foldl (fun acc x => sink key x acc) [] = sink key x ((xs.take i).foldl (fun acc x => sink key x acc) []) ∧ xs.drop i = x :: xs.drop (i + 1) := by
  obtain ⟨h1, rfl⟩ := List.getElem?_eq_some_iff.1 h
  refine ⟨?_, List.drop_eq_getElem_cons h1⟩
  rw [List.take_succ_eq_append_getElem h1, List.foldl_append]; rfl

set_option maxRecDepth 10000 in
theorem isort_at (b o cap F : Nat) (cv : Value) (L : List Value) (T : TypeId) (xs : List Int) (key : Int → Int) (w : World) (h : At w b o L T 1 cap (xs.map intc)) (hn : xs.length ≤ 19) (h1 : 0 < xs.length) (hb : bodied Tryz.prog F = true) (hF : ∀ x y w1, Keep (only b) w w1 → Calls Tryz.prog F #[.int .i64 x, .int .i64 y, cv] w1 fun e w' => e = .returned (.int .i64 (cmpI (key y) (key x))) ∧ Keep none_ w1 w') : Calls Tryz.prog 203 #[.slice (some ⟨b, o, none⟩) xs.length cap, .int .i64 0, .int .i64 ((xs.length : Nat) : Int), .func (.func F) #[] #[cv]] w fun e w' => e = .returned (.tuple #[]) ∧ SlT w' 1 intc (some ⟨b, o, none⟩) cap (sortD key xs) ∧ Keep (only b) w w' := by
 have hblt := h.blk.lt
 obtain ⟨x0, xt, hx0⟩ : ∃ x0 xt, xs = x0 :: xt := by cases xs with
  | nil => simp at h1
  | cons x0 xt => exact ⟨x0, xt, rfl⟩
 have hK0 : Keep (only b) w w := Keep.refl _ _
 have hzhK0 := Keep.size hK0
 refine enterV Tryz.func203 rfl [.slice (some ⟨b, o, none⟩) xs.length cap, nt 0, nt ((xs.length : Nat) : Int), .func (.func F) #[] #[cv]] 53 rfl rfl rfl ?_
 refine V_pick [(0, .slice (some ⟨b, o, none⟩) xs.length cap), (1, nt 0), (2, nt ((xs.length : Nat) : Int)), (3, .func (.func F) #[] #[cv])] rfl ?_
 refine Vr ?_
 refine Os 3 [(0, .slice (some ⟨b, o, none⟩) xs.length cap), (1, nt 0), (2, nt ((xs.length : Nat) : Int)), (3, .func (.func F) #[] #[cv]), (8, nt 1)] ?_
 refine Oe ?_
 refine V_block ?_
 refine V_pick [(0, .slice (some ⟨b, o, none⟩) xs.length cap), (1, nt 0), (2, nt ((xs.length : Nat) : Int)), (3, .func (.func F) #[] #[cv]), (8, nt 1)] rfl ?_
 refine V_loop (fun k wI e => ∃ i : Nat, ∃ acc : List Int, ∃ ys : List Int, ∃ Lx : List Value, (k + i = xs.length) ∧ (i ≤ xs.length) ∧ (acc = (xs.take i).foldl (fun acc x => sink key x acc) []) ∧ (acc.length = i) ∧ (ys = acc.reverse ++ xs.drop i) ∧ (At wI b o Lx T 1 cap (ys.map intc)) ∧ Keep (only b) w wI ∧ e = [(0, .slice (some ⟨b, o, none⟩) xs.length cap), (1, nt 0), (2, nt ((xs.length : Nat) : Int)), (3, .func (.func F) #[] #[cv]), (8, nt ((i : Nat) : Int))]) (xs.length - 1) ⟨1, [x0], xs, L, by omega, by omega, by rw [hx0]; rfl, rfl, by rw [hx0]; rfl, h, Keep.refl _ _, rfl⟩ ?_
 rintro k2 w1 _ ⟨i, acc, ys, Lx, hki, hi, hso, hal, hys, hat, hk3, rfl⟩
 have hsz4 := Keep.size hk3
 replace hK0 := Keep.fresh hK0 hk3 (by intro i hi hs; first | exact hs | exact Or.inl hs | exact Or.inr hs | (exfalso; have hs2 : i = b := hs; omega))
 have hzhk3 := Keep.size hk3
 have hyl : ys.length = xs.length := by rw [hys, List.length_append, List.length_reverse, hal, List.length_drop]; omega
 refine V_seq ?_
 refine Vr ?_
 refine Os 3 [(0, .slice (some ⟨b, o, none⟩) xs.length cap), (1, nt 0), (2, nt ((xs.length : Nat) : Int)), (3, .func (.func F) #[] #[cv]), (8, nt ((i : Nat) : Int)), (14, .bool (decide (((i : Nat) : Int) < ((xs.length : Nat) : Int))))] ?_
 refine Oe ?_
 refine V_if (((i : Nat) : Int) < ((xs.length : Nat) : Int)) (by kernel_rfl) (fun hc5 => ?_) (fun hc5 => ?_)
 ·
  refine V_skip ?_
  refine X_then ?_
  refine V_seq ?_
  refine V_block ?_
  refine Vr ?_
  refine Os 2 [(0, .slice (some ⟨b, o, none⟩) xs.length cap), (1, nt 0), (2, nt ((xs.length : Nat) : Int)), (3, .func (.func F) #[] #[cv]), (8, nt ((i : Nat) : Int)), (9, nt ((i : Nat) : Int))] ?_
  refine Oe ?_
  refine V_block ?_
  obtain ⟨x, hx⟩ : ∃ x, xs[i]? = some x := ⟨_, List.getElem?_eq_getElem (by omega)⟩
  obtain ⟨hst1, hst2⟩ := sinks_step (key := key) hx
  have hzs0 : ys = acc.reverse ++ x :: (([] : List Int).reverse ++ xs.drop (i + 1)) := by rw [hys, hst2]; rfl
  refine V_pick [(0, .slice (some ⟨b, o, none⟩) xs.length cap), (1, nt 0), (2, nt ((xs.length : Nat) : Int)), (3, .func (.func F) #[] #[cv]), (8, nt ((i : Nat) : Int)), (9, nt ((i : Nat) : Int))] rfl ?_
  refine V_loop (fun k wI e => ∃ j : Nat, ∃ A1 : List Int, ∃ A2 : List Int, ∃ zs : List Int, ∃ L2 : List Value, (k = j) ∧ (j = A2.length) ∧ (acc = A1 ++ A2) ∧ (sink key x acc = A1 ++ sink key x A2) ∧ (zs = A2.reverse ++ x :: (A1.reverse ++ xs.drop (i + 1))) ∧ (At wI b o L2 T 1 cap (zs.map intc)) ∧ Keep (only b) w1 wI ∧ e = [(0, .slice (some ⟨b, o, none⟩) xs.length cap), (1, nt 0), (2, nt ((xs.length : Nat) : Int)), (3, .func (.func F) #[] #[cv]), (8, nt ((i : Nat) : Int)), (9, nt ((j : Nat) : Int))]) i ⟨i, [], acc, ys, _, rfl, by omega, rfl, rfl, hzs0, hat, Keep.refl _ _, rfl⟩ ?_
  rintro k7 w6 _ ⟨j, A1, A2, zs, L2, hkj, hj, hac, hsk, hzs, hat2, hk8, rfl⟩
  have hsz9 := Keep.size hk8
  replace hK0 := Keep.fresh hK0 hk8 (by intro i hi hs; first | exact hs | exact Or.inl hs | exact Or.inr hs | (exfalso; have hs2 : i = b := hs; omega))
  replace hk3 := Keep.fresh hk3 hk8 (by intro i hi hs; first | exact hs | exact Or.inl hs | exact Or.inr hs | (exfalso; have hs2 : i = b := hs; omega))
  have hzhk8 := Keep.size hk8
  have hzl : zs.length = xs.length := by rw [hzs, ← hyl, hzs0, hac]; simp only [List.length_append, List.length_reverse, List.length_cons, List.length_nil, List.length_drop, List.reverse_append]; omega
  have hjl : j ≤ i := by have h9 := congrArg List.length hac; rw [List.length_append] at h9; omega
  have hzj := sink_at hzs hj
  refine V_seq ?_
  refine V_seq ?_
  refine V_draws (acts [14]) none_ [[0, 1, 2, 3, 4, 5, 6, 7, 8, 9, 10, 11, 12, 13, 14, 15, 16]] (by kernel_rfl) (by repeat first | exact sure_body (by rintro _ _ ⟨h, _⟩; exact ⟨_, h⟩) | refine sure_then ?_ | refine sure_block ?_ | refine sure_join ?_) (by kernel_rfl) ?_
  intro w11 hk10 he12 L hL13
  have hsz14 := Keep.size hk10
  replace hat2 := hat2.keep hk10 (fun f => f)
  replace hK0 := Keep.tr hK0 (Keep.ofNone hk10)
  replace hk3 := Keep.tr hk3 (Keep.ofNone hk10)
  replace hk8 := Keep.tr hk8 (Keep.ofNone hk10)
  have qhat2 := hat2
  have K15 : Keep none_ w11 w11 := Keep.refl _ _
  obtain rfl := List.mem_singleton.1 hL13
  refine Gs [4, 5, 6, 7, 8, 9, 10, 11, 12, 13, 14, 15, 16] [(0, .slice (some ⟨b, o, none⟩) xs.length cap), (1, nt 0), (2, nt ((xs.length : Nat) : Int)), (3, .func (.func F) #[] #[cv]), (8, nt ((i : Nat) : Int)), (9, nt ((j : Nat) : Int)), (21, .bool (decide (((j : Nat) : Int) > 0)))] ?_
  by_cases hg16 : ((j : Nat) : Int) > 0
  ·
   refine GI_eq [(0, .slice (some ⟨b, o, none⟩) xs.length cap), (1, nt 0), (2, nt ((xs.length : Nat) : Int)), (3, .func (.func F) #[] #[cv]), (8, nt ((i : Nat) : Int)), (9, nt ((j : Nat) : Int)), (21, .bool true)] (by first | rw [decide_eq_true hg16] | simp [hg16] | rfl) ?_
   refine Gs [7, 8, 9, 10, 11, 12, 13, 14, 15, 16] [(0, .slice (some ⟨b, o, none⟩) xs.length cap), (1, nt 0), (2, nt ((xs.length : Nat) : Int)), (3, .func (.func F) #[] #[cv]), (8, nt ((i : Nat) : Int)), (9, nt ((j : Nat) : Int)), (21, .bool true), (22, .func (.func F) #[] #[cv]), (23, .slice (some ⟨b, o, none⟩) xs.length cap), (24, nt ((j : Nat) : Int))] ?_
   refine GI_pure (some 25) (.indexAddr 72 (.tmp 23) (.tmp 24)) (by kernel_rfl) (by kernel_rfl) (pure_idxN (b := b) (o := o) (len := xs.length) (cap := cap) (kd := .i64) (j := j) (E := 3) (sz := 1) (by_ := 8) (by kernel_rfl) (by kernel_rfl) (by kernel_rfl) (by omega)) ?_
   refine Gc0 3 (.tmp 25) (o + j * 1) (nt x) (some 26) qhat2.blk (At.cell0 qhat2 (es_at hzj) rfl) ?_
   have hw17 : IntKind.i64.wrap (((j : Nat) : Int) - 1) = ((j - 1 : Nat) : Int) := (wrap64_id (by omega) (by omega)).trans (by omega)
   refine Gs [12, 13, 14, 15, 16] [(0, .slice (some ⟨b, o, none⟩) xs.length cap), (1, nt 0), (2, nt ((xs.length : Nat) : Int)), (3, .func (.func F) #[] #[cv]), (8, nt ((i : Nat) : Int)), (9, nt ((j : Nat) : Int)), (21, .bool true), (22, .func (.func F) #[] #[cv]), (23, .slice (some ⟨b, o, none⟩) xs.length cap), (24, nt ((j : Nat) : Int)), (25, .pointer (some ⟨b, o + j * 1, none⟩)), (26, nt x), (27, .slice (some ⟨b, o, none⟩) xs.length cap), (28, nt ((j : Nat) : Int)), (29, nt (IntKind.i64.wrap (((j : Nat) : Int) - 1)))] ?_
   refine GI_eq [(0, .slice (some ⟨b, o, none⟩) xs.length cap), (1, nt 0), (2, nt ((xs.length : Nat) : Int)), (3, .func (.func F) #[] #[cv]), (8, nt ((i : Nat) : Int)), (9, nt ((j : Nat) : Int)), (21, .bool true), (22, .func (.func F) #[] #[cv]), (23, .slice (some ⟨b, o, none⟩) xs.length cap), (24, nt ((j : Nat) : Int)), (25, .pointer (some ⟨b, o + j * 1, none⟩)), (26, nt x), (27, .slice (some ⟨b, o, none⟩) xs.length cap), (28, nt ((j : Nat) : Int)), (29, nt ((j - 1 : Nat) : Int))] (by rw [hw17]) ?_
   refine GI_pure (some 30) (.indexAddr 72 (.tmp 27) (.tmp 29)) (by kernel_rfl) (by kernel_rfl) (pure_idxN (b := b) (o := o) (len := xs.length) (cap := cap) (kd := .i64) (j := j - 1) (E := 3) (sz := 1) (by_ := 8) (by kernel_rfl) (by kernel_rfl) (by kernel_rfl) (by omega)) ?_
   obtain ⟨x18, hx19⟩ : ∃ x, zs[j - 1]? = some x := ⟨_, List.getElem?_eq_getElem (by first | omega | (simp only [List.length_map]; omega))⟩
   refine Gc0 3 (.tmp 30) (o + (j - 1) * 1) (nt x18) (some 31) qhat2.blk (At.cell0 qhat2 (es_at hx19) rfl) ?_
   refine GI_call { callee := (Callee.value (Operand.tmp 22)), args := #[(Operand.tmp 26), (Operand.tmp 31)], argTypes := #[3, 3] } F #[nt x, nt x18, cv] (some 32) (by kernel_rfl) (by kernel_rfl) (by kernel_rfl) hb (hF x x18 _ hK0) ?_
   rintro _ w20 ⟨rfl, hk21⟩
   have K22 := K15.tr (Keep.ofNone hk21)
   refine ⟨_, rfl, K22, ?_⟩
   have hzK22 := Keep.size K22
   have hsz23 := Keep.size hk21
   replace hat2 := hat2.keep hk21 (fun f => f)
   replace hK0 := Keep.tr hK0 (Keep.ofNone hk21)
   replace hk3 := Keep.tr hk3 (Keep.ofNone hk21)
   replace hk8 := Keep.tr hk8 (Keep.ofNone hk21)
   refine Gs [] [(0, .slice (some ⟨b, o, none⟩) xs.length cap), (1, nt 0), (2, nt ((xs.length : Nat) : Int)), (3, .func (.func F) #[] #[cv]), (8, nt ((i : Nat) : Int)), (9, nt ((j : Nat) : Int)), (22, .func (.func F) #[] #[cv]), (23, .slice (some ⟨b, o, none⟩) xs.length cap), (24, nt ((j : Nat) : Int)), (25, .pointer (some ⟨b, o + j * 1, none⟩)), (26, nt x), (27, .slice (some ⟨b, o, none⟩) xs.length cap), (28, nt ((j : Nat) : Int)), (29, nt ((j - 1 : Nat) : Int)), (30, .pointer (some ⟨b, o + (j - 1) * 1, none⟩)), (31, nt x18), (32, nt (cmpI (key x18) (key x))), (33, .bool (decide (cmpI (key x18) (key x) < 0))), (34, .bool (decide (cmpI (key x18) (key x) < 0)))] ?_
   refine GI_end ?_
   refine X_then ?_
   refine V_if (cmpI (key x18) (key x) < 0) (by kernel_rfl) (fun hc24 => ?_) (fun hc24 => ?_)
   ·
    refine V_skip ?_
    refine X_then ?_
    refine V_seq ?_
    refine V_block ?_
    refine V_draws (acts [9, 13, 15, 17]) (only b) [[5, 6, 7, 8, 9, 10, 11, 12, 13, 0, 1, 14, 15, 2, 3, 4, 16, 17], [10, 11, 12, 13, 5, 6, 7, 8, 9, 0, 1, 14, 15, 2, 3, 4, 16, 17]] (by kernel_rfl) (by repeat first | exact sure_body (by rintro _ _ ⟨h, _⟩; exact ⟨_, h⟩) | refine sure_then ?_ | refine sure_block ?_ | refine sure_join ?_) (by kernel_rfl) ?_
    intro w26 hk25 he27 L hL28
    have hsz29 := Keep.size hk25
    replace hat2 := hat2.keep hk25 (fun f => f)
    replace hK0 := Keep.tr hK0 (Keep.ofNone hk25)
    replace hk3 := Keep.tr hk3 (Keep.ofNone hk25)
    replace hk8 := Keep.tr hk8 (Keep.ofNone hk25)
    have qhat2 := hat2
    have K30 : Keep (only b) w26 w26 := Keep.refl _ _
    simp only [List.mem_cons, List.not_mem_nil, or_false] at hL28
    rcases hL28 with rfl | rfl
    ·
     have hw31 : IntKind.i64.wrap (((j : Nat) : Int) - 1) = ((j - 1 : Nat) : Int) := (wrap64_id (by omega) (by omega)).trans (by omega)
     refine Gs [8, 9, 10, 11, 12, 13, 0, 1, 14, 15, 2, 3, 4, 16, 17] [(0, .slice (some ⟨b, o, none⟩) xs.length cap), (1, nt 0), (2, nt ((xs.length : Nat) : Int)), (3, .func (.func F) #[] #[cv]), (8, nt ((i : Nat) : Int)), (9, nt ((j : Nat) : Int)), (22, .func (.func F) #[] #[cv]), (23, .slice (some ⟨b, o, none⟩) xs.length cap), (24, nt ((j : Nat) : Int)), (25, .pointer (some ⟨b, o + j * 1, none⟩)), (26, nt x), (27, .slice (some ⟨b, o, none⟩) xs.length cap), (28, nt ((j : Nat) : Int)), (29, nt ((j - 1 : Nat) : Int)), (30, .pointer (some ⟨b, o + (j - 1) * 1, none⟩)), (31, nt x18), (32, nt (cmpI (key x18) (key x))), (33, .bool (decide (cmpI (key x18) (key x) < 0))), (42, .slice (some ⟨b, o, none⟩) xs.length cap), (44, nt (IntKind.i64.wrap (((j : Nat) : Int) - 1)))] ?_
     refine GI_eq [(0, .slice (some ⟨b, o, none⟩) xs.length cap), (1, nt 0), (2, nt ((xs.length : Nat) : Int)), (3, .func (.func F) #[] #[cv]), (8, nt ((i : Nat) : Int)), (9, nt ((j : Nat) : Int)), (22, .func (.func F) #[] #[cv]), (23, .slice (some ⟨b, o, none⟩) xs.length cap), (24, nt ((j : Nat) : Int)), (25, .pointer (some ⟨b, o + j * 1, none⟩)), (26, nt x), (27, .slice (some ⟨b, o, none⟩) xs.length cap), (28, nt ((j : Nat) : Int)), (29, nt ((j - 1 : Nat) : Int)), (30, .pointer (some ⟨b, o + (j - 1) * 1, none⟩)), (31, nt x18), (32, nt (cmpI (key x18) (key x))), (33, .bool (decide (cmpI (key x18) (key x) < 0))), (42, .slice (some ⟨b, o, none⟩) xs.length cap), (44, nt ((j - 1 : Nat) : Int))] (by rw [hw31]) ?_
     refine GI_pure (some 45) (.indexAddr 72 (.tmp 42) (.tmp 44)) (by kernel_rfl) (by kernel_rfl) (pure_idxN (b := b) (o := o) (len := xs.length) (cap := cap) (kd := .i64) (j := j - 1) (E := 3) (sz := 1) (by_ := 8) (by kernel_rfl) (by kernel_rfl) (by kernel_rfl) (by omega)) ?_
     refine GI_cellA 3 (.tmp 45) (o + (j - 1) * 1) (nt x18) (some 46) (by kernel_rfl) (by kernel_rfl) K30 (by kernel_rfl) hat2.blk (m := 1) (by kernel_rfl) (At.cell0 hat2 (es_at hx19) rfl) ?_
     refine Gs [12, 13, 0, 1, 14, 15, 2, 3, 4, 16, 17] [(0, .slice (some ⟨b, o, none⟩) xs.length cap), (1, nt 0), (2, nt ((xs.length : Nat) : Int)), (3, .func (.func F) #[] #[cv]), (8, nt ((i : Nat) : Int)), (9, nt ((j : Nat) : Int)), (22, .func (.func F) #[] #[cv]), (23, .slice (some ⟨b, o, none⟩) xs.length cap), (24, nt ((j : Nat) : Int)), (25, .pointer (some ⟨b, o + j * 1, none⟩)), (26, nt x), (27, .slice (some ⟨b, o, none⟩) xs.length cap), (28, nt ((j : Nat) : Int)), (29, nt ((j - 1 : Nat) : Int)), (30, .pointer (some ⟨b, o + (j - 1) * 1, none⟩)), (31, nt x18), (32, nt (cmpI (key x18) (key x))), (33, .bool (decide (cmpI (key x18) (key x) < 0))), (46, nt x18), (47, .slice (some ⟨b, o, none⟩) xs.length cap), (48, nt ((j : Nat) : Int))] ?_
     refine GI_pure (some 49) (.indexAddr 72 (.tmp 47) (.tmp 48)) (by kernel_rfl) (by kernel_rfl) (pure_idxN (b := b) (o := o) (len := xs.length) (cap := cap) (kd := .i64) (j := j) (E := 3) (sz := 1) (by_ := 8) (by kernel_rfl) (by kernel_rfl) (by kernel_rfl) (by omega)) ?_
     refine GI_cellA 3 (.tmp 49) (o + j * 1) (nt x) (some 50) (by kernel_rfl) (by kernel_rfl) K30 (by kernel_rfl) hat2.blk (m := 1) (by kernel_rfl) (At.cell0 hat2 (es_at hzj) rfl) ?_
     refine Gs [14, 15, 2, 3, 4, 16, 17] [(0, .slice (some ⟨b, o, none⟩) xs.length cap), (1, nt 0), (2, nt ((xs.length : Nat) : Int)), (3, .func (.func F) #[] #[cv]), (8, nt ((i : Nat) : Int)), (9, nt ((j : Nat) : Int)), (22, .func (.func F) #[] #[cv]), (23, .slice (some ⟨b, o, none⟩) xs.length cap), (24, nt ((j : Nat) : Int)), (25, .pointer (some ⟨b, o + j * 1, none⟩)), (26, nt x), (27, .slice (some ⟨b, o, none⟩) xs.length cap), (28, nt ((j : Nat) : Int)), (29, nt ((j - 1 : Nat) : Int)), (30, .pointer (some ⟨b, o + (j - 1) * 1, none⟩)), (31, nt x18), (32, nt (cmpI (key x18) (key x))), (33, .bool (decide (cmpI (key x18) (key x) < 0))), (37, .slice (some ⟨b, o, none⟩) xs.length cap), (38, nt ((j : Nat) : Int)), (46, nt x18), (50, nt x)] ?_
     refine GI_pure (some 51) (.indexAddr 72 (.tmp 37) (.tmp 38)) (by kernel_rfl) (by kernel_rfl) (pure_idxN (b := b) (o := o) (len := xs.length) (cap := cap) (kd := .i64) (j := j) (E := 3) (sz := 1) (by_ := 8) (by kernel_rfl) (by kernel_rfl) (by kernel_rfl) (by omega)) ?_
     refine GI_set (m := 1) (kd := false) 3 (.tmp 51) (.tmp 46) (o + j * 1) (nt x18) [nt x18] none (by kernel_rfl) (by kernel_rfl) (by kernel_rfl) (by kernel_rfl) (At.blk hat2) (by kernel_rfl) (by kernel_rfl) rfl (by have h1 := At.room hat2; have h2 := At.le hat2; rw [List.length_map] at h2; omega) (by simp [Value.oneCell']) K30 (fun hh => rfl) ?_
     intro w32 hn33 hk34 hz35 K37
     have hat36 := At.set (y := (x18 : Int)) (k := 0) hat2 hzj (by omega) (by simp [intc, over]) hn33
     have hsz38 := Keep.size hk34
     replace hK0 := Keep.fresh hK0 hk34 (by intro i hi hs; first | exact hs | exact Or.inl hs | exact Or.inr hs | (exfalso; have hs2 : i = b := hs; omega))
     replace hk3 := Keep.fresh hk3 hk34 (by intro i hi hs; first | exact hs | exact Or.inl hs | exact Or.inr hs | (exfalso; have hs2 : i = b := hs; omega))
     replace hk8 := Keep.fresh hk8 hk34 (by intro i hi hs; first | exact hs | exact Or.inl hs | exact Or.inr hs | (exfalso; have hs2 : i = b := hs; omega))
     have hlhx39 : (zs.set j x18).length = zs.length := List.length_set
     have hx39 : (zs.set j x18)[j]? = some x18 := by rw [List.getElem?_set_self (List.getElem?_eq_some_iff.1 hzj).1]
     have hw40 : IntKind.i64.wrap (((j : Nat) : Int) - 1) = ((j - 1 : Nat) : Int) := (wrap64_id (by omega) (by omega)).trans (by omega)
     refine Gs [16, 17] [(0, .slice (some ⟨b, o, none⟩) xs.length cap), (1, nt 0), (2, nt ((xs.length : Nat) : Int)), (3, .func (.func F) #[] #[cv]), (8, nt ((i : Nat) : Int)), (9, nt ((j : Nat) : Int)), (22, .func (.func F) #[] #[cv]), (23, .slice (some ⟨b, o, none⟩) xs.length cap), (24, nt ((j : Nat) : Int)), (25, .pointer (some ⟨b, o + j * 1, none⟩)), (26, nt x), (27, .slice (some ⟨b, o, none⟩) xs.length cap), (28, nt ((j : Nat) : Int)), (29, nt ((j - 1 : Nat) : Int)), (30, .pointer (some ⟨b, o + (j - 1) * 1, none⟩)), (31, nt x18), (32, nt (cmpI (key x18) (key x))), (33, .bool (decide (cmpI (key x18) (key x) < 0))), (39, .slice (some ⟨b, o, none⟩) xs.length cap), (41, nt (IntKind.i64.wrap (((j : Nat) : Int) - 1))), (50, nt x)] ?_
     refine GI_eq [(0, .slice (some ⟨b, o, none⟩) xs.length cap), (1, nt 0), (2, nt ((xs.length : Nat) : Int)), (3, .func (.func F) #[] #[cv]), (8, nt ((i : Nat) : Int)), (9, nt ((j : Nat) : Int)), (22, .func (.func F) #[] #[cv]), (23, .slice (some ⟨b, o, none⟩) xs.length cap), (24, nt ((j : Nat) : Int)), (25, .pointer (some ⟨b, o + j * 1, none⟩)), (26, nt x), (27, .slice (some ⟨b, o, none⟩) xs.length cap), (28, nt ((j : Nat) : Int)), (29, nt ((j - 1 : Nat) : Int)), (30, .pointer (some ⟨b, o + (j - 1) * 1, none⟩)), (31, nt x18), (32, nt (cmpI (key x18) (key x))), (33, .bool (decide (cmpI (key x18) (key x) < 0))), (39, .slice (some ⟨b, o, none⟩) xs.length cap), (41, nt ((j - 1 : Nat) : Int)), (50, nt x)] (by rw [hw40]) ?_
     refine GI_pure (some 52) (.indexAddr 72 (.tmp 39) (.tmp 41)) (by kernel_rfl) (by kernel_rfl) (pure_idxN (b := b) (o := o) (len := xs.length) (cap := cap) (kd := .i64) (j := j - 1) (E := 3) (sz := 1) (by_ := 8) (by kernel_rfl) (by kernel_rfl) (by kernel_rfl) (by omega)) ?_
     refine GI_final 17 (by kernel_rfl) (by kernel_rfl) ?_
     obtain ⟨x41, hx42⟩ : ∃ x, (zs.set j x18)[j - 1]? = some x := ⟨_, List.getElem?_eq_getElem (by first | omega | (simp only [List.length_map]; omega))⟩
     refine OI_set (m := 1) (kd := false) 3 (.tmp 52) (.tmp 50) (o + (j - 1) * 1) (nt x) [nt x] none (by kernel_rfl) (by kernel_rfl) (by kernel_rfl) (At.blk hat36) (by kernel_rfl) (by kernel_rfl) rfl (by have h1 := At.room hat36; have h2 := At.le hat36; rw [List.length_map] at h2; omega) (by simp [Value.oneCell']) ?_
     intro w43 hn44 hk45 hz46
     have hat47 := At.set (y := (x : Int)) (k := 0) hat36 hx42 (by omega) (by simp [intc, over]) hn44
     have hsz48 := Keep.size hk45
     replace hK0 := Keep.fresh hK0 hk45 (by intro i hi hs; first | exact hs | exact Or.inl hs | exact Or.inr hs | (exfalso; have hs2 : i = b := hs; omega))
     replace hk3 := Keep.fresh hk3 hk45 (by intro i hi hs; first | exact hs | exact Or.inl hs | exact Or.inr hs | (exfalso; have hs2 : i = b := hs; omega))
     replace hk8 := Keep.fresh hk8 hk45 (by intro i hi hs; first | exact hs | exact Or.inl hs | exact Or.inr hs | (exfalso; have hs2 : i = b := hs; omega))
     have hlhx49 : ((zs.set j x18).set (j - 1) x).length = (zs.set j x18).length := List.length_set
     have hx49 : ((zs.set j x18).set (j - 1) x)[j - 1]? = some x := by rw [List.getElem?_set_self (List.getElem?_eq_some_iff.1 hx42).1]
     refine OI_end rfl ?_
     refine X_block ?_
     refine X_then ?_
     refine V_region ?_
     have hw50 : IntKind.i64.wrap (((j : Nat) : Int) - 1) = ((j - 1 : Nat) : Int) := (wrap64_id (by omega) (by omega)).trans (by omega)
     refine Os 2 [(0, .slice (some ⟨b, o, none⟩) xs.length cap), (1, nt 0), (2, nt ((xs.length : Nat) : Int)), (3, .func (.func F) #[] #[cv]), (8, nt ((i : Nat) : Int)), (22, .func (.func F) #[] #[cv]), (23, .slice (some ⟨b, o, none⟩) xs.length cap), (24, nt ((j : Nat) : Int)), (25, .pointer (some ⟨b, o + j * 1, none⟩)), (26, nt x), (27, .slice (some ⟨b, o, none⟩) xs.length cap), (28, nt ((j : Nat) : Int)), (29, nt ((j - 1 : Nat) : Int)), (30, .pointer (some ⟨b, o + (j - 1) * 1, none⟩)), (31, nt x18), (32, nt (cmpI (key x18) (key x))), (33, .bool (decide (cmpI (key x18) (key x) < 0))), (36, nt (IntKind.i64.wrap (((j : Nat) : Int) - 1)))] ?_
     refine OI_eq [(0, .slice (some ⟨b, o, none⟩) xs.length cap), (1, nt 0), (2, nt ((xs.length : Nat) : Int)), (3, .func (.func F) #[] #[cv]), (8, nt ((i : Nat) : Int)), (22, .func (.func F) #[] #[cv]), (23, .slice (some ⟨b, o, none⟩) xs.length cap), (24, nt ((j : Nat) : Int)), (25, .pointer (some ⟨b, o + j * 1, none⟩)), (26, nt x), (27, .slice (some ⟨b, o, none⟩) xs.length cap), (28, nt ((j : Nat) : Int)), (29, nt ((j - 1 : Nat) : Int)), (30, .pointer (some ⟨b, o + (j - 1) * 1, none⟩)), (31, nt x18), (32, nt (cmpI (key x18) (key x))), (33, .bool (decide (cmpI (key x18) (key x) < 0))), (36, nt ((j - 1 : Nat) : Int))] (by rw [hw50]) ?_
     refine Os 3 [(0, .slice (some ⟨b, o, none⟩) xs.length cap), (1, nt 0), (2, nt ((xs.length : Nat) : Int)), (3, .func (.func F) #[] #[cv]), (8, nt ((i : Nat) : Int)), (9, nt ((j - 1 : Nat) : Int)), (22, .func (.func F) #[] #[cv]), (23, .slice (some ⟨b, o, none⟩) xs.length cap), (24, nt ((j : Nat) : Int)), (25, .pointer (some ⟨b, o + j * 1, none⟩)), (26, nt x), (27, .slice (some ⟨b, o, none⟩) xs.length cap), (28, nt ((j : Nat) : Int)), (29, nt ((j - 1 : Nat) : Int)), (30, .pointer (some ⟨b, o + (j - 1) * 1, none⟩)), (31, nt x18), (32, nt (cmpI (key x18) (key x))), (33, .bool (decide (cmpI (key x18) (key x) < 0)))] ?_
     refine OI_end rfl ?_
     obtain ⟨B, rfl, hzn⟩ := sink_prev hzs hj (by omega) hx19
     have hgo : key x > key x18 := cmpI_neg.1 hc24
     exact V_again (j - 1) (by omega) [(0, .slice (some ⟨b, o, none⟩) xs.length cap), (1, nt 0), (2, nt ((xs.length : Nat) : Int)), (3, .func (.func F) #[] #[cv]), (8, nt ((i : Nat) : Int)), (9, nt ((j - 1 : Nat) : Int))] rfl ⟨j - 1, A1 ++ [x18], B, _, _, by omega, by rw [hj]; simp, by rw [hac, List.append_assoc]; rfl, by rw [hsk, sink_go hgo, List.append_assoc]; rfl, hzn, hat47, hk8, rfl⟩
    ·
     refine Gs [12, 13, 5, 6, 7, 8, 9, 0, 1, 14, 15, 2, 3, 4, 16, 17] [(0, .slice (some ⟨b, o, none⟩) xs.length cap), (1, nt 0), (2, nt ((xs.length : Nat) : Int)), (3, .func (.func F) #[] #[cv]), (8, nt ((i : Nat) : Int)), (9, nt ((j : Nat) : Int)), (22, .func (.func F) #[] #[cv]), (23, .slice (some ⟨b, o, none⟩) xs.length cap), (24, nt ((j : Nat) : Int)), (25, .pointer (some ⟨b, o + j * 1, none⟩)), (26, nt x), (27, .slice (some ⟨b, o, none⟩) xs.length cap), (28, nt ((j : Nat) : Int)), (29, nt ((j - 1 : Nat) : Int)), (30, .pointer (some ⟨b, o + (j - 1) * 1, none⟩)), (31, nt x18), (32, nt (cmpI (key x18) (key x))), (33, .bool (decide (cmpI (key x18) (key x) < 0))), (47, .slice (some ⟨b, o, none⟩) xs.length cap), (48, nt ((j : Nat) : Int))] ?_
     refine GI_pure (some 49) (.indexAddr 72 (.tmp 47) (.tmp 48)) (by kernel_rfl) (by kernel_rfl) (pure_idxN (b := b) (o := o) (len := xs.length) (cap := cap) (kd := .i64) (j := j) (E := 3) (sz := 1) (by_ := 8) (by kernel_rfl) (by kernel_rfl) (by kernel_rfl) (by omega)) ?_
     refine GI_cellA 3 (.tmp 49) (o + j * 1) (nt x) (some 50) (by kernel_rfl) (by kernel_rfl) K30 (by kernel_rfl) hat2.blk (m := 1) (by kernel_rfl) (At.cell0 hat2 (es_at hzj) rfl) ?_
     have hw51 : IntKind.i64.wrap (((j : Nat) : Int) - 1) = ((j - 1 : Nat) : Int) := (wrap64_id (by omega) (by omega)).trans (by omega)
     refine Gs [8, 9, 0, 1, 14, 15, 2, 3, 4, 16, 17] [(0, .slice (some ⟨b, o, none⟩) xs.length cap), (1, nt 0), (2, nt ((xs.length : Nat) : Int)), (3, .func (.func F) #[] #[cv]), (8, nt ((i : Nat) : Int)), (9, nt ((j : Nat) : Int)), (22, .func (.func F) #[] #[cv]), (23, .slice (some ⟨b, o, none⟩) xs.length cap), (24, nt ((j : Nat) : Int)), (25, .pointer (some ⟨b, o + j * 1, none⟩)), (26, nt x), (27, .slice (some ⟨b, o, none⟩) xs.length cap), (28, nt ((j : Nat) : Int)), (29, nt ((j - 1 : Nat) : Int)), (30, .pointer (some ⟨b, o + (j - 1) * 1, none⟩)), (31, nt x18), (32, nt (cmpI (key x18) (key x))), (33, .bool (decide (cmpI (key x18) (key x) < 0))), (42, .slice (some ⟨b, o, none⟩) xs.length cap), (44, nt (IntKind.i64.wrap (((j : Nat) : Int) - 1))), (50, nt x)] ?_
     refine GI_eq [(0, .slice (some ⟨b, o, none⟩) xs.length cap), (1, nt 0), (2, nt ((xs.length : Nat) : Int)), (3, .func (.func F) #[] #[cv]), (8, nt ((i : Nat) : Int)), (9, nt ((j : Nat) : Int)), (22, .func (.func F) #[] #[cv]), (23, .slice (some ⟨b, o, none⟩) xs.length cap), (24, nt ((j : Nat) : Int)), (25, .pointer (some ⟨b, o + j * 1, none⟩)), (26, nt x), (27, .slice (some ⟨b, o, none⟩) xs.length cap), (28, nt ((j : Nat) : Int)), (29, nt ((j - 1 : Nat) : Int)), (30, .pointer (some ⟨b, o + (j - 1) * 1, none⟩)), (31, nt x18), (32, nt (cmpI (key x18) (key x))), (33, .bool (decide (cmpI (key x18) (key x) < 0))), (42, .slice (some ⟨b, o, none⟩) xs.length cap), (44, nt ((j - 1 : Nat) : Int)), (50, nt x)] (by rw [hw51]) ?_
     refine GI_pure (some 45) (.indexAddr 72 (.tmp 42) (.tmp 44)) (by kernel_rfl) (by kernel_rfl) (pure_idxN (b := b) (o := o) (len := xs.length) (cap := cap) (kd := .i64) (j := j - 1) (E := 3) (sz := 1) (by_ := 8) (by kernel_rfl) (by kernel_rfl) (by kernel_rfl) (by omega)) ?_
     refine GI_cellA 3 (.tmp 45) (o + (j - 1) * 1) (nt x18) (some 46) (by kernel_rfl) (by kernel_rfl) K30 (by kernel_rfl) hat2.blk (m := 1) (by kernel_rfl) (At.cell0 hat2 (es_at hx19) rfl) ?_
     refine Gs [14, 15, 2, 3, 4, 16, 17] [(0, .slice (some ⟨b, o, none⟩) xs.length cap), (1, nt 0), (2, nt ((xs.length : Nat) : Int)), (3, .func (.func F) #[] #[cv]), (8, nt ((i : Nat) : Int)), (9, nt ((j : Nat) : Int)), (22, .func (.func F) #[] #[cv]), (23, .slice (some ⟨b, o, none⟩) xs.length cap), (24, nt ((j : Nat) : Int)), (25, .pointer (some ⟨b, o + j * 1, none⟩)), (26, nt x), (27, .slice (some ⟨b, o, none⟩) xs.length cap), (28, nt ((j : Nat) : Int)), (29, nt ((j - 1 : Nat) : Int)), (30, .pointer (some ⟨b, o + (j - 1) * 1, none⟩)), (31, nt x18), (32, nt (cmpI (key x18) (key x))), (33, .bool (decide (cmpI (key x18) (key x) < 0))), (37, .slice (some ⟨b, o, none⟩) xs.length cap), (38, nt ((j : Nat) : Int)), (46, nt x18), (50, nt x)] ?_
     refine GI_pure (some 51) (.indexAddr 72 (.tmp 37) (.tmp 38)) (by kernel_rfl) (by kernel_rfl) (pure_idxN (b := b) (o := o) (len := xs.length) (cap := cap) (kd := .i64) (j := j) (E := 3) (sz := 1) (by_ := 8) (by kernel_rfl) (by kernel_rfl) (by kernel_rfl) (by omega)) ?_
     refine GI_set (m := 1) (kd := false) 3 (.tmp 51) (.tmp 46) (o + j * 1) (nt x18) [nt x18] none (by kernel_rfl) (by kernel_rfl) (by kernel_rfl) (by kernel_rfl) (At.blk hat2) (by kernel_rfl) (by kernel_rfl) rfl (by have h1 := At.room hat2; have h2 := At.le hat2; rw [List.length_map] at h2; omega) (by simp [Value.oneCell']) K30 (fun hh => rfl) ?_
     intro w52 hn53 hk54 hz55 K57
     have hat56 := At.set (y := (x18 : Int)) (k := 0) hat2 hzj (by omega) (by simp [intc, over]) hn53
     have hsz58 := Keep.size hk54
     replace hK0 := Keep.fresh hK0 hk54 (by intro i hi hs; first | exact hs | exact Or.inl hs | exact Or.inr hs | (exfalso; have hs2 : i = b := hs; omega))
     replace hk3 := Keep.fresh hk3 hk54 (by intro i hi hs; first | exact hs | exact Or.inl hs | exact Or.inr hs | (exfalso; have hs2 : i = b := hs; omega))
     replace hk8 := Keep.fresh hk8 hk54 (by intro i hi hs; first | exact hs | exact Or.inl hs | exact Or.inr hs | (exfalso; have hs2 : i = b := hs; omega))
     have hlhx59 : (zs.set j x18).length = zs.length := List.length_set
     have hx59 : (zs.set j x18)[j]? = some x18 := by rw [List.getElem?_set_self (List.getElem?_eq_some_iff.1 hzj).1]
     have hw60 : IntKind.i64.wrap (((j : Nat) : Int) - 1) = ((j - 1 : Nat) : Int) := (wrap64_id (by omega) (by omega)).trans (by omega)
     refine Gs [16, 17] [(0, .slice (some ⟨b, o, none⟩) xs.length cap), (1, nt 0), (2, nt ((xs.length : Nat) : Int)), (3, .func (.func F) #[] #[cv]), (8, nt ((i : Nat) : Int)), (9, nt ((j : Nat) : Int)), (22, .func (.func F) #[] #[cv]), (23, .slice (some ⟨b, o, none⟩) xs.length cap), (24, nt ((j : Nat) : Int)), (25, .pointer (some ⟨b, o + j * 1, none⟩)), (26, nt x), (27, .slice (some ⟨b, o, none⟩) xs.length cap), (28, nt ((j : Nat) : Int)), (29, nt ((j - 1 : Nat) : Int)), (30, .pointer (some ⟨b, o + (j - 1) * 1, none⟩)), (31, nt x18), (32, nt (cmpI (key x18) (key x))), (33, .bool (decide (cmpI (key x18) (key x) < 0))), (39, .slice (some ⟨b, o, none⟩) xs.length cap), (41, nt (IntKind.i64.wrap (((j : Nat) : Int) - 1))), (50, nt x)] ?_
     refine GI_eq [(0, .slice (some ⟨b, o, none⟩) xs.length cap), (1, nt 0), (2, nt ((xs.length : Nat) : Int)), (3, .func (.func F) #[] #[cv]), (8, nt ((i : Nat) : Int)), (9, nt ((j : Nat) : Int)), (22, .func (.func F) #[] #[cv]), (23, .slice (some ⟨b, o, none⟩) xs.length cap), (24, nt ((j : Nat) : Int)), (25, .pointer (some ⟨b, o + j * 1, none⟩)), (26, nt x), (27, .slice (some ⟨b, o, none⟩) xs.length cap), (28, nt ((j : Nat) : Int)), (29, nt ((j - 1 : Nat) : Int)), (30, .pointer (some ⟨b, o + (j - 1) * 1, none⟩)), (31, nt x18), (32, nt (cmpI (key x18) (key x))), (33, .bool (decide (cmpI (key x18) (key x) < 0))), (39, .slice (some ⟨b, o, none⟩) xs.length cap), (41, nt ((j - 1 : Nat) : Int)), (50, nt x)] (by rw [hw60]) ?_
     refine GI_pure (some 52) (.indexAddr 72 (.tmp 39) (.tmp 41)) (by kernel_rfl) (by kernel_rfl) (pure_idxN (b := b) (o := o) (len := xs.length) (cap := cap) (kd := .i64) (j := j - 1) (E := 3) (sz := 1) (by_ := 8) (by kernel_rfl) (by kernel_rfl) (by kernel_rfl) (by omega)) ?_
     refine GI_final 17 (by kernel_rfl) (by kernel_rfl) ?_
     obtain ⟨x61, hx62⟩ : ∃ x, (zs.set j x18)[j - 1]? = some x := ⟨_, List.getElem?_eq_getElem (by first | omega | (simp only [List.length_map]; omega))⟩
     refine OI_set (m := 1) (kd := false) 3 (.tmp 52) (.tmp 50) (o + (j - 1) * 1) (nt x) [nt x] none (by kernel_rfl) (by kernel_rfl) (by kernel_rfl) (At.blk hat56) (by kernel_rfl) (by kernel_rfl) rfl (by have h1 := At.room hat56; have h2 := At.le hat56; rw [List.length_map] at h2; omega) (by simp [Value.oneCell']) ?_
     intro w63 hn64 hk65 hz66
     have hat67 := At.set (y := (x : Int)) (k := 0) hat56 hx62 (by omega) (by simp [intc, over]) hn64
     have hsz68 := Keep.size hk65
     replace hK0 := Keep.fresh hK0 hk65 (by intro i hi hs; first | exact hs | exact Or.inl hs | exact Or.inr hs | (exfalso; have hs2 : i = b := hs; omega))
     replace hk3 := Keep.fresh hk3 hk65 (by intro i hi hs; first | exact hs | exact Or.inl hs | exact Or.inr hs | (exfalso; have hs2 : i = b := hs; omega))
     replace hk8 := Keep.fresh hk8 hk65 (by intro i hi hs; first | exact hs | exact Or.inl hs | exact Or.inr hs | (exfalso; have hs2 : i = b := hs; omega))
     have hlhx69 : ((zs.set j x18).set (j - 1) x).length = (zs.set j x18).length := List.length_set
     have hx69 : ((zs.set j x18).set (j - 1) x)[j - 1]? = some x := by rw [List.getElem?_set_self (List.getElem?_eq_some_iff.1 hx62).1]
     refine OI_end rfl ?_
     refine X_block ?_
     refine X_then ?_
     refine V_region ?_
     have hw70 : IntKind.i64.wrap (((j : Nat) : Int) - 1) = ((j - 1 : Nat) : Int) := (wrap64_id (by omega) (by omega)).trans (by omega)
     refine Os 2 [(0, .slice (some ⟨b, o, none⟩) xs.length cap), (1, nt 0), (2, nt ((xs.length : Nat) : Int)), (3, .func (.func F) #[] #[cv]), (8, nt ((i : Nat) : Int)), (22, .func (.func F) #[] #[cv]), (23, .slice (some ⟨b, o, none⟩) xs.length cap), (24, nt ((j : Nat) : Int)), (25, .pointer (some ⟨b, o + j * 1, none⟩)), (26, nt x), (27, .slice (some ⟨b, o, none⟩) xs.length cap), (28, nt ((j : Nat) : Int)), (29, nt ((j - 1 : Nat) : Int)), (30, .pointer (some ⟨b, o + (j - 1) * 1, none⟩)), (31, nt x18), (32, nt (cmpI (key x18) (key x))), (33, .bool (decide (cmpI (key x18) (key x) < 0))), (36, nt (IntKind.i64.wrap (((j : Nat) : Int) - 1)))] ?_
     refine OI_eq [(0, .slice (some ⟨b, o, none⟩) xs.length cap), (1, nt 0), (2, nt ((xs.length : Nat) : Int)), (3, .func (.func F) #[] #[cv]), (8, nt ((i : Nat) : Int)), (22, .func (.func F) #[] #[cv]), (23, .slice (some ⟨b, o, none⟩) xs.length cap), (24, nt ((j : Nat) : Int)), (25, .pointer (some ⟨b, o + j * 1, none⟩)), (26, nt x), (27, .slice (some ⟨b, o, none⟩) xs.length cap), (28, nt ((j : Nat) : Int)), (29, nt ((j - 1 : Nat) : Int)), (30, .pointer (some ⟨b, o + (j - 1) * 1, none⟩)), (31, nt x18), (32, nt (cmpI (key x18) (key x))), (33, .bool (decide (cmpI (key x18) (key x) < 0))), (36, nt ((j - 1 : Nat) : Int))] (by rw [hw70]) ?_
     refine Os 3 [(0, .slice (some ⟨b, o, none⟩) xs.length cap), (1, nt 0), (2, nt ((xs.length : Nat) : Int)), (3, .func (.func F) #[] #[cv]), (8, nt ((i : Nat) : Int)), (9, nt ((j - 1 : Nat) : Int)), (22, .func (.func F) #[] #[cv]), (23, .slice (some ⟨b, o, none⟩) xs.length cap), (24, nt ((j : Nat) : Int)), (25, .pointer (some ⟨b, o + j * 1, none⟩)), (26, nt x), (27, .slice (some ⟨b, o, none⟩) xs.length cap), (28, nt ((j : Nat) : Int)), (29, nt ((j - 1 : Nat) : Int)), (30, .pointer (some ⟨b, o + (j - 1) * 1, none⟩)), (31, nt x18), (32, nt (cmpI (key x18) (key x))), (33, .bool (decide (cmpI (key x18) (key x) < 0)))] ?_
     refine OI_end rfl ?_
     obtain ⟨B, rfl, hzn⟩ := sink_prev hzs hj (by omega) hx19
     have hgo : key x > key x18 := cmpI_neg.1 hc24
     exact V_again (j - 1) (by omega) [(0, .slice (some ⟨b, o, none⟩) xs.length cap), (1, nt 0), (2, nt ((xs.length : Nat) : Int)), (3, .func (.func F) #[] #[cv]), (8, nt ((i : Nat) : Int)), (9, nt ((j - 1 : Nat) : Int))] rfl ⟨j - 1, A1 ++ [x18], B, _, _, by omega, by rw [hj]; simp, by rw [hac, List.append_assoc]; rfl, by rw [hsk, sink_go hgo, List.append_assoc]; rfl, hzn, hat67, hk8, rfl⟩
   obtain ⟨B, hB, _⟩ := sink_prev hzs hj (by omega) hx19
   have hsx : sink key x acc = A1 ++ x :: A2 := by rw [hsk, hB, sink_stop (fun h9 => hc24 (cmpI_neg.2 h9))]
   refine V_exit ?_
   refine X_exit_then ?_
   refine X_exit_then ?_
   refine X_exit_here ?_
   refine X_block ?_
   refine X_then ?_
   refine V_region ?_
   have hw71 : IntKind.i64.wrap (((i : Nat) : Int) + 1) = ((i + 1 : Nat) : Int) := (wrap64_id (by omega) (by omega)).trans (by omega)
   refine Os 2 [(0, .slice (some ⟨b, o, none⟩) xs.length cap), (1, nt 0), (2, nt ((xs.length : Nat) : Int)), (3, .func (.func F) #[] #[cv]), (16, nt (IntKind.i64.wrap (((i : Nat) : Int) + 1))), (22, .func (.func F) #[] #[cv]), (23, .slice (some ⟨b, o, none⟩) xs.length cap), (24, nt ((j : Nat) : Int)), (25, .pointer (some ⟨b, o + j * 1, none⟩)), (26, nt x), (27, .slice (some ⟨b, o, none⟩) xs.length cap), (28, nt ((j : Nat) : Int)), (29, nt ((j - 1 : Nat) : Int)), (30, .pointer (some ⟨b, o + (j - 1) * 1, none⟩)), (31, nt x18), (32, nt (cmpI (key x18) (key x))), (33, .bool (decide (cmpI (key x18) (key x) < 0)))] ?_
   refine OI_eq [(0, .slice (some ⟨b, o, none⟩) xs.length cap), (1, nt 0), (2, nt ((xs.length : Nat) : Int)), (3, .func (.func F) #[] #[cv]), (16, nt ((i + 1 : Nat) : Int)), (22, .func (.func F) #[] #[cv]), (23, .slice (some ⟨b, o, none⟩) xs.length cap), (24, nt ((j : Nat) : Int)), (25, .pointer (some ⟨b, o + j * 1, none⟩)), (26, nt x), (27, .slice (some ⟨b, o, none⟩) xs.length cap), (28, nt ((j : Nat) : Int)), (29, nt ((j - 1 : Nat) : Int)), (30, .pointer (some ⟨b, o + (j - 1) * 1, none⟩)), (31, nt x18), (32, nt (cmpI (key x18) (key x))), (33, .bool (decide (cmpI (key x18) (key x) < 0)))] (by rw [hw71]) ?_
   refine Os 3 [(0, .slice (some ⟨b, o, none⟩) xs.length cap), (1, nt 0), (2, nt ((xs.length : Nat) : Int)), (3, .func (.func F) #[] #[cv]), (8, nt ((i + 1 : Nat) : Int)), (22, .func (.func F) #[] #[cv]), (23, .slice (some ⟨b, o, none⟩) xs.length cap), (24, nt ((j : Nat) : Int)), (25, .pointer (some ⟨b, o + j * 1, none⟩)), (26, nt x), (27, .slice (some ⟨b, o, none⟩) xs.length cap), (28, nt ((j : Nat) : Int)), (29, nt ((j - 1 : Nat) : Int)), (30, .pointer (some ⟨b, o + (j - 1) * 1, none⟩)), (31, nt x18), (32, nt (cmpI (key x18) (key x))), (33, .bool (decide (cmpI (key x18) (key x) < 0)))] ?_
   refine OI_end rfl ?_
   exact V_again (xs.length - (i + 1)) (by omega) [(0, .slice (some ⟨b, o, none⟩) xs.length cap), (1, nt 0), (2, nt ((xs.length : Nat) : Int)), (3, .func (.func F) #[] #[cv]), (8, nt ((i + 1 : Nat) : Int))] rfl ⟨i + 1, A1 ++ x :: A2, zs, _, by omega, by omega, by rw [hst1, ← hso, hsx], by have h9 := congrArg List.length hac; simp only [List.length_append, List.length_cons] at h9 ⊢; omega, by rw [hzs]; simp, hat2, hk3, rfl⟩
  have hA2 : A2 = [] := List.length_eq_zero_iff.1 (by omega)
  have hsx : sink key x acc = A1 ++ x :: A2 := by rw [hsk, hA2]; rfl
  refine GI_eq [(0, .slice (some ⟨b, o, none⟩) xs.length cap), (1, nt 0), (2, nt ((xs.length : Nat) : Int)), (3, .func (.func F) #[] #[cv]), (8, nt ((i : Nat) : Int)), (9, nt ((j : Nat) : Int)), (21, .bool false)] (by first | rw [decide_eq_false hg16] | simp [hg16] | rfl) ?_
  refine Gs [] [(0, .slice (some ⟨b, o, none⟩) xs.length cap), (1, nt 0), (2, nt ((xs.length : Nat) : Int)), (3, .func (.func F) #[] #[cv]), (8, nt ((i : Nat) : Int)), (9, nt ((j : Nat) : Int)), (22, undef), (23, undef), (24, undef), (25, undef), (26, undef), (27, undef), (28, undef), (29, undef), (30, undef), (31, undef), (32, undef), (33, undef), (34, .bool false)] ?_
  refine GI_end ?_
  refine X_then ?_
  refine V_false rfl ?_
  refine V_exit ?_
  refine X_exit_then ?_
  refine X_exit_then ?_
  refine X_exit_here ?_
  refine X_block ?_
  refine X_then ?_
  refine V_region ?_
  have hw72 : IntKind.i64.wrap (((i : Nat) : Int) + 1) = ((i + 1 : Nat) : Int) := (wrap64_id (by omega) (by omega)).trans (by omega)
  refine Os 2 [(0, .slice (some ⟨b, o, none⟩) xs.length cap), (1, nt 0), (2, nt ((xs.length : Nat) : Int)), (3, .func (.func F) #[] #[cv]), (16, nt (IntKind.i64.wrap (((i : Nat) : Int) + 1))), (22, undef), (23, undef), (24, undef), (25, undef), (26, undef), (27, undef), (28, undef), (29, undef), (30, undef), (31, undef), (32, undef), (33, undef)] ?_
  refine OI_eq [(0, .slice (some ⟨b, o, none⟩) xs.length cap), (1, nt 0), (2, nt ((xs.length : Nat) : Int)), (3, .func (.func F) #[] #[cv]), (16, nt ((i + 1 : Nat) : Int)), (22, undef), (23, undef), (24, undef), (25, undef), (26, undef), (27, undef), (28, undef), (29, undef), (30, undef), (31, undef), (32, undef), (33, undef)] (by rw [hw72]) ?_
  refine Os 3 [(0, .slice (some ⟨b, o, none⟩) xs.length cap), (1, nt 0), (2, nt ((xs.length : Nat) : Int)), (3, .func (.func F) #[] #[cv]), (8, nt ((i + 1 : Nat) : Int)), (22, undef), (23, undef), (24, undef), (25, undef), (26, undef), (27, undef), (28, undef), (29, undef), (30, undef), (31, undef), (32, undef), (33, undef)] ?_
  refine OI_end rfl ?_
  exact V_again (xs.length - (i + 1)) (by omega) [(0, .slice (some ⟨b, o, none⟩) xs.length cap), (1, nt 0), (2, nt ((xs.length : Nat) : Int)), (3, .func (.func F) #[] #[cv]), (8, nt ((i + 1 : Nat) : Int))] rfl ⟨i + 1, A1 ++ x :: A2, zs, _, by omega, by omega, by rw [hst1, ← hso, hsx], by have h9 := congrArg List.length hac; simp only [List.length_append, List.length_cons] at h9 ⊢; omega, by rw [hzs]; simp, hat2, hk3, rfl⟩
 refine V_exit ?_
 refine X_exit_then ?_
 refine X_exit_then ?_
 refine X_exit_here ?_
 have hie : i = xs.length := by omega
 have h9 : ys = sortD key xs := by rw [hys, hie, List.drop_length, List.append_nil, hso, hie, List.take_length]; rfl
 exact X_end _ rfl ⟨rfl, by rw [← h9]; exact At.slt hat, hK0⟩

set_option maxRecDepth 10000 in
theorem isort_nil (A : Option Addr) (cap : Nat) (fv : Value) (w : World) : Calls Tryz.prog 203 #[.slice A 0 cap, .int .i64 0, .int .i64 0, fv] w fun e w' => e = .returned (.tuple #[]) ∧ w' = w := by
 refine enterV Tryz.func203 rfl [.slice A 0 cap, nt 0, nt 0, fv] 53 rfl rfl rfl ?_
 refine V_pick [(0, .slice A 0 cap), (1, nt 0), (2, nt 0), (3, fv)] rfl ?_
 refine Vr ?_
 refine Os 3 [(0, .slice A 0 cap), (1, nt 0), (2, nt 0), (3, fv), (8, nt 1)] ?_
 refine Oe ?_
 refine V_block ?_
 refine V_pick [(0, .slice A 0 cap), (1, nt 0), (2, nt 0), (3, fv), (8, nt 1)] rfl ?_
 refine V_loop (fun k wI e => (k = 0) ∧ w = wI ∧ e = [(0, .slice A 0 cap), (1, nt 0), (2, nt 0), (3, fv), (8, nt 1)]) 0 ⟨rfl, rfl, rfl⟩ ?_
 rintro k2 _ _ ⟨hk9, rfl, rfl⟩
 refine V_seq ?_
 refine Vr ?_
 refine Os 3 [(0, .slice A 0 cap), (1, nt 0), (2, nt 0), (3, fv), (8, nt 1), (14, .bool false)] ?_
 refine Oe ?_
 refine V_false rfl ?_
 refine V_exit ?_
 refine X_exit_then ?_
 refine X_exit_then ?_
 refine X_exit_here ?_
 exact X_end _ rfl ⟨rfl, rfl⟩

set_option maxRecDepth 10000 in
theorem stable_at (b o cap F : Nat) (cv : Value) (L : List Value) (T : TypeId) (xs : List Int) (key : Int → Int) (w : World) (h : At w b o L T 1 cap (xs.map intc)) (hn : xs.length ≤ 19) (h1 : 0 < xs.length) (hb : bodied Tryz.prog F = true) (hF : ∀ x y w1, Keep (only b) w w1 → Calls Tryz.prog F #[.int .i64 x, .int .i64 y, cv] w1 fun e w' => e = .returned (.int .i64 (cmpI (key y) (key x))) ∧ Keep none_ w1 w') : Calls Tryz.prog 185 #[.slice (some ⟨b, o, none⟩) xs.length cap, .int .i64 ((xs.length : Nat) : Int), .func (.func F) #[] #[cv]] w fun e w' => e = .returned (.tuple #[]) ∧ SlT w' 1 intc (some ⟨b, o, none⟩) cap (sortD key xs) ∧ Keep (only b) w w' := by
 have hblt := h.blk.lt
 have hK0 : Keep (only b) w w := Keep.refl _ _
 have hzhK0 := Keep.size hK0
 refine enterV Tryz.func185 rfl [.slice (some ⟨b, o, none⟩) xs.length cap, nt ((xs.length : Nat) : Int), .func (.func F) #[] #[cv]] 63 rfl rfl rfl ?_
 refine V_pick [(0, .slice (some ⟨b, o, none⟩) xs.length cap), (1, nt ((xs.length : Nat) : Int)), (2, .func (.func F) #[] #[cv])] rfl ?_
 refine Vr ?_
 refine Os 1 [(0, .slice (some ⟨b, o, none⟩) xs.length cap), (1, nt ((xs.length : Nat) : Int)), (2, .func (.func F) #[] #[cv]), (6, nt 20)] ?_
 refine Oer ?_
 refine Os 3 [(0, .slice (some ⟨b, o, none⟩) xs.length cap), (1, nt ((xs.length : Nat) : Int)), (2, .func (.func F) #[] #[cv]), (6, nt 20), (7, nt 0), (8, nt 20)] ?_
 refine Oe ?_
 refine V_seq ?_
 refine V_block ?_
 refine V_pick [(0, .slice (some ⟨b, o, none⟩) xs.length cap), (1, nt ((xs.length : Nat) : Int)), (2, .func (.func F) #[] #[cv]), (6, nt 20), (7, nt 0), (8, nt 20)] rfl ?_
 refine V_loop (fun k wI e => (k = 0) ∧ w = wI ∧ e = [(0, .slice (some ⟨b, o, none⟩) xs.length cap), (1, nt ((xs.length : Nat) : Int)), (2, .func (.func F) #[] #[cv]), (6, nt 20), (7, nt 0), (8, nt 20)]) 0 ⟨rfl, rfl, rfl⟩ ?_
 rintro k2 _ _ ⟨hk9, rfl, rfl⟩
 refine V_seq ?_
 refine Vr ?_
 refine Os 3 [(0, .slice (some ⟨b, o, none⟩) xs.length cap), (1, nt ((xs.length : Nat) : Int)), (2, .func (.func F) #[] #[cv]), (6, nt 20), (7, nt 0), (8, nt 20), (13, .bool (decide ((20 : Int) ≤ ((xs.length : Nat) : Int))))] ?_
 refine Oe ?_
 refine V_if ((20 : Int) ≤ ((xs.length : Nat) : Int)) (by kernel_rfl) (fun hc3 => ?_) (fun hc3 => ?_)
 ·
  exact (by omega : False).elim
 refine V_exit ?_
 refine X_exit_then ?_
 refine X_exit_then ?_
 refine X_exit_here ?_
 refine X_then ?_
 refine Vr ?_
 refine Os 4 [(0, .slice (some ⟨b, o, none⟩) xs.length cap), (1, nt ((xs.length : Nat) : Int)), (2, .func (.func F) #[] #[cv]), (6, nt 20), (23, .slice (some ⟨b, o, none⟩) xs.length cap), (24, nt 0), (25, nt ((xs.length : Nat) : Int)), (26, .func (.func F) #[] #[cv])] ?_
 refine Ok { callee := (Callee.value (Operand.func 203)), args := #[(Operand.tmp 23), (Operand.tmp 24), (Operand.tmp 25), (Operand.tmp 26)], argTypes := #[72, 3, 3, 128] } 203 #[.slice (some ⟨b, o, none⟩) xs.length cap, nt 0, nt ((xs.length : Nat) : Int), .func (.func F) #[] #[cv]] (some 27) (isort_at b o cap F cv L T xs key _ h hn h1 hb hF) ?_
 rintro _ w6 ⟨rfl, hso, hk7⟩
 refine ⟨_, rfl, ?_⟩
 have hsz8 := Keep.size hk7
 replace hK0 := Keep.fresh hK0 hk7 (by intro i hi hs; first | exact hs | exact Or.inl hs | exact Or.inr hs | (exfalso; have hs2 : i = b := hs; omega))
 refine Oe ?_
 refine V_block ?_
 refine V_pick [(0, .slice (some ⟨b, o, none⟩) xs.length cap), (1, nt ((xs.length : Nat) : Int)), (2, .func (.func F) #[] #[cv]), (6, nt 20)] rfl ?_
 refine V_loop (fun k wI e => (k = 0) ∧ w6 = wI ∧ e = [(0, .slice (some ⟨b, o, none⟩) xs.length cap), (1, nt ((xs.length : Nat) : Int)), (2, .func (.func F) #[] #[cv]), (6, nt 20)]) 0 ⟨rfl, rfl, rfl⟩ ?_
 rintro k10 _ _ ⟨hk9, rfl, rfl⟩
 refine V_seq ?_
 refine Vr ?_
 refine Os 3 [(0, .slice (some ⟨b, o, none⟩) xs.length cap), (1, nt ((xs.length : Nat) : Int)), (2, .func (.func F) #[] #[cv]), (6, nt 20), (30, .bool (decide ((20 : Int) < ((xs.length : Nat) : Int))))] ?_
 refine Oe ?_
 refine V_if ((20 : Int) < ((xs.length : Nat) : Int)) (by kernel_rfl) (fun hc11 => ?_) (fun hc11 => ?_)
 ·
  exact (by omega : False).elim
 refine V_exit ?_
 refine X_exit_then ?_
 refine X_exit_then ?_
 refine X_exit_here ?_
 exact X_end _ rfl ⟨rfl, hso, hK0⟩

set_option maxRecDepth 10000 in
theorem stable_nil (A : Option Addr) (cap : Nat) (fv : Value) (w : World) : Calls Tryz.prog 185 #[.slice A 0 cap, .int .i64 0, fv] w fun e w' => e = .returned (.tuple #[]) ∧ w' = w := by
 refine enterV Tryz.func185 rfl [.slice A 0 cap, nt 0, fv] 63 rfl rfl rfl ?_
 refine V_pick [(0, .slice A 0 cap), (1, nt 0), (2, fv)] rfl ?_
 refine Vr ?_
 refine Os 1 [(0, .slice A 0 cap), (1, nt 0), (2, fv), (6, nt 20)] ?_
 refine Oer ?_
 refine Os 3 [(0, .slice A 0 cap), (1, nt 0), (2, fv), (6, nt 20), (7, nt 0), (8, nt 20)] ?_
 refine Oe ?_
 refine V_seq ?_
 refine V_block ?_
 refine V_pick [(0, .slice A 0 cap), (1, nt 0), (2, fv), (6, nt 20), (7, nt 0), (8, nt 20)] rfl ?_
 refine V_loop (fun k wI e => (k = 0) ∧ w = wI ∧ e = [(0, .slice A 0 cap), (1, nt 0), (2, fv), (6, nt 20), (7, nt 0), (8, nt 20)]) 0 ⟨rfl, rfl, rfl⟩ ?_
 rintro k2 _ _ ⟨hk9, rfl, rfl⟩
 refine V_seq ?_
 refine Vr ?_
 refine Os 3 [(0, .slice A 0 cap), (1, nt 0), (2, fv), (6, nt 20), (7, nt 0), (8, nt 20), (13, .bool false)] ?_
 refine Oe ?_
 refine V_false rfl ?_
 refine V_exit ?_
 refine X_exit_then ?_
 refine X_exit_then ?_
 refine X_exit_here ?_
 refine X_then ?_
 refine Vr ?_
 refine Os 4 [(0, .slice A 0 cap), (1, nt 0), (2, fv), (6, nt 20), (23, .slice A 0 cap), (24, nt 0), (25, nt 0), (26, fv)] ?_
 refine Ok { callee := (Callee.value (Operand.func 203)), args := #[(Operand.tmp 23), (Operand.tmp 24), (Operand.tmp 25), (Operand.tmp 26)], argTypes := #[72, 3, 3, 128] } 203 #[.slice A 0 cap, nt 0, nt 0, fv] (some 27) (isort_nil A cap fv _) ?_
 rintro _ w ⟨rfl, rfl⟩
 refine ⟨_, rfl, ?_⟩
 refine Oe ?_
 refine V_block ?_
 refine V_pick [(0, .slice A 0 cap), (1, nt 0), (2, fv), (6, nt 20)] rfl ?_
 refine V_loop (fun k wI e => (k = 0) ∧ w = wI ∧ e = [(0, .slice A 0 cap), (1, nt 0), (2, fv), (6, nt 20)]) 0 ⟨rfl, rfl, rfl⟩ ?_
 rintro k7 _ _ ⟨hk9, rfl, rfl⟩
 refine V_seq ?_
 refine Vr ?_
 refine Os 3 [(0, .slice A 0 cap), (1, nt 0), (2, fv), (6, nt 20), (30, .bool false)] ?_
 refine Oe ?_
 refine V_false rfl ?_
 refine V_exit ?_
 refine X_exit_then ?_
 refine X_exit_then ?_
 refine X_exit_here ?_
 exact X_end _ rfl ⟨rfl, rfl⟩

set_option maxRecDepth 10000 in
theorem ssort_at (b o cap F : Nat) (cv : Value) (L : List Value) (T : TypeId) (xs : List Int) (key : Int → Int) (w : World) (h : At w b o L T 1 cap (xs.map intc)) (hn : xs.length ≤ 19) (h1 : 0 < xs.length) (hb : bodied Tryz.prog F = true) (hF : ∀ x y w1, Keep (only b) w w1 → Calls Tryz.prog F #[.int .i64 x, .int .i64 y, cv] w1 fun e w' => e = .returned (.int .i64 (cmpI (key y) (key x))) ∧ Keep none_ w1 w') : Calls Tryz.prog 151 #[.slice (some ⟨b, o, none⟩) xs.length cap, .func (.func F) #[] #[cv]] w fun e w' => e = .returned (.tuple #[]) ∧ SlT w' 1 intc (some ⟨b, o, none⟩) cap (sortD key xs) ∧ Keep (only b) w w' := by
 have hblt := h.blk.lt
 have hK0 : Keep (only b) w w := Keep.refl _ _
 have hzhK0 := Keep.size hK0
 refine enterV Tryz.func151 rfl [.slice (some ⟨b, o, none⟩) xs.length cap, .func (.func F) #[] #[cv]] 9 rfl rfl rfl ?_
 refine V_pick [(0, .slice (some ⟨b, o, none⟩) xs.length cap), (1, .func (.func F) #[] #[cv])] rfl ?_
 refine V_region ?_
 refine Os 4 [(4, .slice (some ⟨b, o, none⟩) xs.length cap), (6, nt ((xs.length : Nat) : Int)), (7, .func (.func F) #[] #[cv])] ?_
 refine Ok { callee := (Callee.value (Operand.func 185)), args := #[(Operand.tmp 4), (Operand.tmp 6), (Operand.tmp 7)], argTypes := #[72, 3, 128] } 185 #[.slice (some ⟨b, o, none⟩) xs.length cap, nt ((xs.length : Nat) : Int), .func (.func F) #[] #[cv]] (some 8) (stable_at b o cap F cv L T xs key _ h hn h1 hb hF) ?_
 rintro _ w3 ⟨rfl, hso, hk4⟩
 refine ⟨_, rfl, ?_⟩
 have hsz5 := Keep.size hk4
 replace hK0 := Keep.fresh hK0 hk4 (by intro i hi hs; first | exact hs | exact Or.inl hs | exact Or.inr hs | (exfalso; have hs2 : i = b := hs; omega))
 refine OI_end rfl ?_
 exact X_end _ rfl ⟨rfl, hso, hK0⟩

set_option maxRecDepth 10000 in
theorem ssort_nil (A : Option Addr) (cap : Nat) (fv : Value) (w : World) : Calls Tryz.prog 151 #[.slice A 0 cap, fv] w fun e w' => e = .returned (.tuple #[]) ∧ w' = w := by
 refine enterV Tryz.func151 rfl [.slice A 0 cap, fv] 9 rfl rfl rfl ?_
 refine V_pick [(0, .slice A 0 cap), (1, fv)] rfl ?_
 refine V_region ?_
 refine Os 4 [(4, .slice A 0 cap), (6, nt 0), (7, fv)] ?_
 refine Ok { callee := (Callee.value (Operand.func 185)), args := #[(Operand.tmp 4), (Operand.tmp 6), (Operand.tmp 7)], argTypes := #[72, 3, 128] } 185 #[.slice A 0 cap, nt 0, fv] (some 8) (stable_nil A cap fv _) ?_
 rintro _ w ⟨rfl, rfl⟩
 refine ⟨_, rfl, ?_⟩
 refine OI_end rfl ?_
 exact X_end _ rfl ⟨rfl, rfl⟩

theorem ssort_spec (A : Option Addr) (cap F : Nat) (cv : Value) (xs : List Int) (key : Int → Int) (w : World) (hA : SlT w 1 intc A cap xs) (hn : xs.length ≤ 19) (hb : bodied Tryz.prog F = true) (hF : ∀ x y w1, Keep (inA A) w w1 → Calls Tryz.prog F #[.int .i64 x, .int .i64 y, cv] w1 fun e w' => e = .returned (.int .i64 (cmpI (key y) (key x))) ∧ Keep none_ w1 w') : Calls Tryz.prog 151 #[.slice A xs.length cap, .func (.func F) #[] #[cv]] w fun e w' => e = .returned (.tuple #[]) ∧ SlT w' 1 intc A cap (sortD key xs) ∧ Keep (inA A) w w' := by
  rcases Nat.eq_zero_or_pos xs.length with h0 | h0
  · obtain rfl := List.length_eq_zero_iff.1 h0
    exact (ssort_nil A cap _ w).mono (by rintro e w' ⟨rfl, rfl⟩; exact ⟨rfl, hA, Keep.refl _ _⟩)
  · obtain ⟨b, o, L, T, rfl, h⟩ := hA.open_ h0
    refine (ssort_at b o cap F cv L T xs key w h hn h0 hb (fun x y w1 hk => hF x y w1 (hk.mono (fun q _ hq => ⟨_, rfl, hq⟩)))).mono ?_
    rintro e w' ⟨rfl, h1, h2⟩
    exact ⟨rfl, h1, h2.mono (fun q _ hq => ⟨_, rfl, hq⟩)⟩
theorem sink_len (key : Int → Int) (x : Int) : ∀ l : List Int, (sink key x l).length = l.length + 1
  | [] => rfl
  | y :: l => by
    simp only [sink]
    split
    · simp only [List.length_cons, sink_len key x l]
    · simp only [List.length_cons]
theorem sortD_len (key : Int → Int) (l : List Int) : (sortD key l).length = l.length := by
  have h : ∀ (l acc : List Int), (l.foldl (fun acc x => sink key x acc) acc).length = acc.length + l.length := by
    intro l
    induction l with
    | nil => intro acc; rfl
    | cons x l ih => intro acc; simp only [List.foldl_cons, ih, sink_len, List.length_cons]; omega
  unfold sortD
  rw [List.length_reverse, h]; simp
theorem sink_mem {key : Int → Int} {x z : Int} : ∀ {l : List Int}, z ∈ sink key x l → z = x ∨ z ∈ l
  | [], h => by simp only [sink, List.mem_singleton] at h; exact .inl h
  | y :: l, h => by
    simp only [sink] at h
    split at h
    · rcases List.mem_cons.1 h with h | h
      · exact .inr (h ▸ List.mem_cons_self ..)
      · exact (sink_mem h).imp id (List.mem_cons_of_mem _)
    · rcases List.mem_cons.1 h with h | h
      · exact .inl h
      · exact .inr h
theorem sortD_mem {key : Int → Int} {l : List Int} {z : Int} (h : z ∈ sortD key l) : z ∈ l := by
  have hf : ∀ (l acc : List Int), z ∈ l.foldl (fun acc x => sink key x acc) acc → z ∈ acc ∨ z ∈ l := by
    intro l
    induction l with
    | nil => intro acc h; exact .inl h
    | cons x l ih =>
      intro acc h
      rcases ih _ h with h | h
      · exact (sink_mem h).elim (fun e => .inr (e ▸ List.mem_cons_self ..)) .inl
      · exact .inr (List.mem_cons_of_mem _ h)
  unfold sortD at h
  exact (hf l [] (List.mem_reverse.1 h)).elim (fun h => by cases h) id
end Go.Al


namespace Go.Al
open Go Go.RowKit Go.Proofs
set_option maxRecDepth 10000 in
theorem rget_spec (H : Nat → Prop) (r g : Nat) (ts : List Trk) (rs : List Rfm) (ref : Int) (w : World) (hR : Rfr H w r g ts rs) : Calls Tryz.prog 23 #[.pointer (some ⟨r, 0, none⟩), .int .i64 ref] w fun e w' => e = .returned (.tuple #[.agg (getA rs ref).cells.toArray, .bool (getR rs ref).isSome]) ∧ Keep none_ w w' := by
 have hHlt := Rfr.lt hR
 have hrH := Rfr.at_ hR
 have hgH := Rfr.atg hR
 have hrlt := hHlt _ hrH
 have hglt := hHlt _ hgH
 have hin := Rfr.inn hR
 obtain ⟨A, cap, hr, hA, hAo, hrg⟩ := Rfr.parts hR
 have hAlt := SlT.lt hA
 have hAr : ∀ q, inA A q → q ≠ r ∧ q ≠ g ∧ q < w.heap.size := fun q hq => ⟨(hAo q hq).2.1, (hAo q hq).2.2, hAlt q hq⟩
 have hgo : ∀ q, only g q → q ≠ r := fun q hq e => hrg (e.symm.trans hq)
 have hgl : ∀ q, only g q → q < w.heap.size := fun q hq => by rw [show q = g from hq]; exact hglt
 have hHo : ∀ q, H q → 0 ≤ q := fun q _ => Nat.zero_le q
 have htl := hin.tl
 have hrl := hin.rl
 have hK0 : Keep none_ w w := Keep.refl _ _
 have hzhK0 := Keep.size hK0
 refine enterM Tryz.func23 rfl [pt r, nt ref] 17 rfl rfl rfl ?_
 refine V_pick [(0, pt r), (1, nt ref)] rfl ?_
 refine Vr ?_
 refine OI_alloc 57 (.agg (Rfm.cells Rfm.zero).toArray) (Rfm.cells Rfm.zero) (some 4) (by kernel_rfl) (by kernel_rfl) (by kernel_rfl) ?_
 intro b1 w1 e1 hb1 k1 z1
 have hsz2 := Keep.size k1
 replace hr := hr.keep k1 (fun f => f)
 replace hA := SlT.keep0 hA k1
 replace hR := Rfr.keep hR k1 (fun _ _ f => f)
 replace hK0 := Keep.tr hK0 (Keep.ofNone k1)
 have hb1lt := hb1.lt
 refine Os 2 [(0, pt r), (1, nt ref), (4, pt b1)] ?_
 refine Oe ?_
 refine V_seq ?_
 refine Vr ?_
 refine Os 2 [(0, pt r), (1, nt ref), (4, pt b1), (7, .bool false)] ?_
 refine Oe ?_
 refine V_false rfl ?_
 refine V_skip ?_
 refine X_then ?_
 refine Vr ?_
 refine Os 3 [(1, nt ref), (4, pt b1), (11, .pointer (some ⟨r, 1, none⟩))] ?_
 refine Oc 95 (.tmp 11) 1 (pt g) (some 12) hr rfl ?_
 refine Os 5 [(4, pt b1), (12, pt g), (13, nt ref)] ?_
 refine Ok { callee := (Callee.value (Operand.func 53)), args := #[(Operand.tmp 12), (Operand.const (Value.int IntKind.i64 0)), (Operand.tmp 13)], argTypes := #[95, 3, 3] } 53 #[pt g, nt 0, nt ref] (some 14) (qget_spec H r g ts rs ref _ hR) ?_
 rintro _ w3 ⟨rfl, hk4⟩
 refine ⟨_, rfl, ?_⟩
 have hsz5 := Keep.size hk4
 replace hr := hr.keep hk4 (fun f => f)
 replace hb1 := hb1.keep hk4 (fun f => f)
 replace hA := SlT.keep0 hA hk4
 replace hR := Rfr.keep hR hk4 (fun _ _ f => f)
 replace hK0 := Keep.tr hK0 (Keep.ofNone hk4)
 refine Os 8 [(4, pt b1), (15, .agg (Rfm.cells (getA rs ref)).toArray), (16, .bool ((getR rs ref).isSome))] ?_
 refine OI_set (m := 45) (kd := true) 57 (.tmp 4) (.tmp 15) 0 (.agg (Rfm.cells (getA rs ref)).toArray) (Rfm.cells (getA rs ref)) none (by kernel_rfl) (by kernel_rfl) (by kernel_rfl) hb1 (by kernel_rfl) rfl (Rfm.len _) (Nat.le_of_ble_eq_true (by kernel_rfl)) (Rfm.one _) ?_
 intro w6 hb1_9 hk7 hz8
 replace hb1_9 : Blk w6 b1 (Rfm.cells (getA rs ref)) 57 := (Blk.eqL (Rfm.over _ _) hb1_9)
 have hsz10 := Keep.size hk7
 replace hr := hr.keep hk7 (by show ¬ (_ = _); omega)
 replace hA := SlT.keep hA hk7 (fun q hq hs => by have hs : q = b1 := hs; have g0 := hAr q hq; have g1 := hAlt q hq; omega)
 replace hR := Rfr.keep hR hk7 (fun q hq hs => by have hs : q = b1 := hs; have g0 := hHo q hq; have g1 := hHlt q hq; omega)
 replace hK0 := Keep.fresh hK0 hk7 (by intro i hi hs; first | exact hs | exact Or.inl hs | exact Or.inr hs | (exfalso; have hs2 : i = b1 := hs; omega))
 refine Os 10 [(4, pt b1), (5, .bool ((getR rs ref).isSome))] ?_
 refine Oe ?_
 refine V_ret ?_
 exact leave0 (.tuple #[.agg (Rfm.cells (getA rs ref)).toArray, .bool ((getR rs ref).isSome)]) (.inl rfl) (res_agg_tmp (m := 45) rfl rfl rfl (by kernel_rfl) hb1_9 rfl) ⟨rfl, hK0⟩

set_option maxRecDepth 10000 in
theorem rtrack_in (H : Nat → Prop) (r g : Nat) (ts : List Trk) (rs : List Rfm) (j : Nat) (w : World) (hR : Rfr H w r g ts rs) (hj : j < ts.length) : Calls Tryz.prog 29 #[.pointer (some ⟨r, 0, none⟩), .int .i64 (j : Int)] w fun e w' => e = .returned (.tuple #[.agg (trkA ts (j : Int)).cells.toArray, .bool (trkO ts (j : Int)).isSome]) ∧ Keep none_ w w' := by
 have hHlt := Rfr.lt hR
 have hrH := Rfr.at_ hR
 have hgH := Rfr.atg hR
 have hrlt := hHlt _ hrH
 have hglt := hHlt _ hgH
 have hin := Rfr.inn hR
 obtain ⟨A, cap, hr, hA, hAo, hrg⟩ := Rfr.parts hR
 have hAlt := SlT.lt hA
 have hAr : ∀ q, inA A q → q ≠ r ∧ q ≠ g ∧ q < w.heap.size := fun q hq => ⟨(hAo q hq).2.1, (hAo q hq).2.2, hAlt q hq⟩
 have hgo : ∀ q, only g q → q ≠ r := fun q hq e => hrg (e.symm.trans hq)
 have hgl : ∀ q, only g q → q < w.heap.size := fun q hq => by rw [show q = g from hq]; exact hglt
 have hHo : ∀ q, H q → 0 ≤ q := fun q _ => Nat.zero_le q
 have htl := hin.tl
 have hrl := hin.rl
 have hK0 : Keep none_ w w := Keep.refl _ _
 have hzhK0 := Keep.size hK0
 refine enterM Tryz.func29 rfl [pt r, nt ((j : Nat) : Int)] 29 rfl rfl rfl ?_
 refine V_pick [(0, pt r), (1, nt ((j : Nat) : Int))] rfl ?_
 refine Vr ?_
 refine OI_alloc 27 (.agg (Trk.cells Trk.zero).toArray) (Trk.cells Trk.zero) (some 4) (by kernel_rfl) (by kernel_rfl) (by kernel_rfl) ?_
 intro b1 w1 e1 hb1 k1 z1
 have hsz2 := Keep.size k1
 replace hr := hr.keep k1 (fun f => f)
 replace hA := SlT.keep0 hA k1
 replace hR := Rfr.keep hR k1 (fun _ _ f => f)
 replace hK0 := Keep.tr hK0 (Keep.ofNone k1)
 have hb1lt := hb1.lt
 refine Os 2 [(0, pt r), (1, nt ((j : Nat) : Int)), (4, pt b1)] ?_
 refine Oe ?_
 refine V_seq ?_
 refine Vr ?_
 refine Os 7 [(0, pt r), (1, nt ((j : Nat) : Int)), (4, pt b1), (12, .bool (decide (((j : Nat) : Int) < 0)))] ?_
 by_cases hg3 : ((j : Nat) : Int) < 0
 ·
  exact (by omega : False).elim
 refine OI_eq [(0, pt r), (1, nt ((j : Nat) : Int)), (4, pt b1), (12, .bool false)] (by first | simp [hg3] | rfl) ?_
 refine Os 11 [(0, pt r), (1, nt ((j : Nat) : Int)), (4, pt b1), (12, .bool false), (13, nt ((j : Nat) : Int)), (16, pt r)] ?_
 refine Oc 29 (.tmp 16) 0 (.slice A ts.length cap) (some 17) hr rfl ?_
 refine Os 15 [(0, pt r), (1, nt ((j : Nat) : Int)), (4, pt b1), (20, .bool (decide (((j : Nat) : Int) ≥ ((ts.length : Nat) : Int))))] ?_
 refine Oe ?_
 refine V_if (((j : Nat) : Int) ≥ ((ts.length : Nat) : Int)) (by kernel_rfl) (fun hc4 => ?_) (fun hc4 => ?_)
 ·
  exact (by omega : False).elim
 refine V_skip ?_
 refine X_then ?_
 refine Vr ?_
 refine Os 3 [(1, nt ((j : Nat) : Int)), (4, pt b1), (24, pt r)] ?_
 refine Oc 29 (.tmp 24) 0 (.slice A ts.length cap) (some 25) hr rfl ?_
 refine Os 5 [(4, pt b1), (25, .slice A ts.length cap), (26, nt ((j : Nat) : Int))] ?_
 obtain ⟨b5, o5, L5, T5, rfl, hat5⟩ := SlT.open_ hA (by first | omega | (simp only [List.length_map]; omega) | (simp; done) | (simp; omega))
 have hb5lt := hat5.blk.lt
 have hob6 := hAr b5 ⟨_, rfl, rfl⟩
 have hob7 := hAlt b5 ⟨_, rfl, rfl⟩
 refine OI_pure (some 27) (.indexAddr 29 (.tmp 25) (.tmp 26)) (by kernel_rfl) (pure_idxN (b := b5) (o := o5) (len := ts.length) (cap := cap) (kd := .i64) (j := j) (E := 27) (sz := 18) (by_ := 144) (by kernel_rfl) (by kernel_rfl) (by kernel_rfl) (by omega)) ?_
 obtain ⟨x8, hx9⟩ : ∃ x, ts[j]? = some x := ⟨_, List.getElem?_eq_getElem (by first | omega | (simp only [List.length_map]; omega))⟩
 refine Oa 27 (.tmp 27) (o5 + j * 18) (Trk.cells x8) (some 28) 18 hat5.blk (At.elem' hat5 (es_at hx9)) (At.len hat5 (es_at hx9)) ?_
 refine OI_set (m := 18) (kd := true) 27 (.tmp 4) (.tmp 28) 0 (.agg (Trk.cells x8).toArray) (Trk.cells x8) none (by kernel_rfl) (by kernel_rfl) (by kernel_rfl) hb1 (by kernel_rfl) rfl (Trk.len _) (Nat.le_of_ble_eq_true (by kernel_rfl)) (Trk.one _) ?_
 intro w10 hb1_13 hk11 hz12
 replace hb1_13 : Blk w10 b1 (Trk.cells x8) 27 := (Blk.eqL (Trk.over _ _) hb1_13)
 have hsz14 := Keep.size hk11
 replace hr := hr.keep hk11 (by show ¬ (_ = _); omega)
 replace hat5 := hat5.keep hk11 (by show ¬ (_ = _); omega)
 replace hR := Rfr.keep hR hk11 (fun q hq hs => by have hs : q = b1 := hs; have g0 := hHo q hq; have g1 := hHlt q hq; omega)
 replace hK0 := Keep.fresh hK0 hk11 (by intro i hi hs; first | exact hs | exact Or.inl hs | exact Or.inr hs | (exfalso; have hs2 : i = b1 := hs; omega))
 refine Os 9 [(4, pt b1), (5, .bool true)] ?_
 refine Oe ?_
 refine V_ret ?_
 exact leave0 (.tuple #[.agg (Trk.cells x8).toArray, .bool true]) (.inl rfl) (res_agg_tmp (m := 18) rfl rfl rfl (by kernel_rfl) hb1_13 rfl) ⟨by have e9 : trkO ts (j : Int) = some x8 := (by unfold trkO; rw [if_pos (by omega), Int.toNat_natCast]; exact hx9); unfold trkA; rw [e9]; rfl, hK0⟩

set_option maxRecDepth 10000 in
theorem rtrack_out (H : Nat → Prop) (r g : Nat) (ts : List Trk) (rs : List Rfm) (i : Int) (w : World) (hR : Rfr H w r g ts rs) (hi : ¬ (0 ≤ i ∧ i < ts.length)) : Calls Tryz.prog 29 #[.pointer (some ⟨r, 0, none⟩), .int .i64 i] w fun e w' => e = .returned (.tuple #[.agg (trkA ts i).cells.toArray, .bool (trkO ts i).isSome]) ∧ Keep none_ w w' := by
 have hHlt := Rfr.lt hR
 have hrH := Rfr.at_ hR
 have hgH := Rfr.atg hR
 have hrlt := hHlt _ hrH
 have hglt := hHlt _ hgH
 have hin := Rfr.inn hR
 obtain ⟨A, cap, hr, hA, hAo, hrg⟩ := Rfr.parts hR
 have hAlt := SlT.lt hA
 have hAr : ∀ q, inA A q → q ≠ r ∧ q ≠ g ∧ q < w.heap.size := fun q hq => ⟨(hAo q hq).2.1, (hAo q hq).2.2, hAlt q hq⟩
 have hgo : ∀ q, only g q → q ≠ r := fun q hq e => hrg (e.symm.trans hq)
 have hgl : ∀ q, only g q → q < w.heap.size := fun q hq => by rw [show q = g from hq]; exact hglt
 have hHo : ∀ q, H q → 0 ≤ q := fun q _ => Nat.zero_le q
 have htl := hin.tl
 have hrl := hin.rl
 have hK0 : Keep none_ w w := Keep.refl _ _
 have hzhK0 := Keep.size hK0
 refine enterM Tryz.func29 rfl [pt r, nt i] 29 rfl rfl rfl ?_
 refine V_pick [(0, pt r), (1, nt i)] rfl ?_
 refine Vr ?_
 refine OI_alloc 27 (.agg (Trk.cells Trk.zero).toArray) (Trk.cells Trk.zero) (some 4) (by kernel_rfl) (by kernel_rfl) (by kernel_rfl) ?_
 intro b1 w1 e1 hb1 k1 z1
 have hsz2 := Keep.size k1
 replace hr := hr.keep k1 (fun f => f)
 replace hA := SlT.keep0 hA k1
 replace hR := Rfr.keep hR k1 (fun _ _ f => f)
 replace hK0 := Keep.tr hK0 (Keep.ofNone k1)
 have hb1lt := hb1.lt
 refine Os 2 [(0, pt r), (1, nt i), (4, pt b1)] ?_
 refine Oe ?_
 refine V_seq ?_
 refine Vr ?_
 refine Os 7 [(0, pt r), (1, nt i), (4, pt b1), (12, .bool (decide (i < 0)))] ?_
 by_cases hg3 : i < 0
 ·
  refine OI_eq [(0, pt r), (1, nt i), (4, pt b1), (12, .bool true)] (by first | simp [hg3] | rfl) ?_
  refine Os 15 [(0, pt r), (1, nt i), (4, pt b1), (20, .bool true)] ?_
  refine Oe ?_
  refine V_true rfl ?_
  refine Vr ?_
  refine Os 1 [(4, pt b1), (21, .agg (Trk.cells Trk.zero).toArray)] ?_
  refine OI_set (m := 18) (kd := true) 27 (.tmp 4) (.tmp 21) 0 (.agg (Trk.cells Trk.zero).toArray) (Trk.cells Trk.zero) none (by kernel_rfl) (by kernel_rfl) (by kernel_rfl) hb1 (by kernel_rfl) rfl (Trk.len _) (Nat.le_of_ble_eq_true (by kernel_rfl)) (Trk.one _) ?_
  intro w4 hb1_7 hk5 hz6
  replace hb1_7 : Blk w4 b1 (Trk.cells Trk.zero) 27 := (Blk.eqL (Trk.over _ _) hb1_7)
  have hsz8 := Keep.size hk5
  replace hr := hr.keep hk5 (by show ¬ (_ = _); omega)
  replace hA := SlT.keep hA hk5 (fun q hq hs => by have hs : q = b1 := hs; have g0 := hAr q hq; have g1 := hAlt q hq; omega)
  replace hR := Rfr.keep hR hk5 (fun q hq hs => by have hs : q = b1 := hs; have g0 := hHo q hq; have g1 := hHlt q hq; omega)
  replace hK0 := Keep.fresh hK0 hk5 (by intro i hi hs; first | exact hs | exact Or.inl hs | exact Or.inr hs | (exfalso; have hs2 : i = b1 := hs; omega))
  refine Os 3 [(4, pt b1), (5, .bool false)] ?_
  refine Oe ?_
  refine V_ret ?_
  refine X_ret_then ?_
  exact leave0 (.tuple #[.agg (Trk.cells Trk.zero).toArray, .bool false]) (.inl rfl) (res_agg_tmp (m := 18) rfl rfl rfl (by kernel_rfl) hb1_7 rfl) ⟨by have e9 : trkO ts i = none := if_neg hi; unfold trkA; rw [e9]; rfl, hK0⟩
 refine OI_eq [(0, pt r), (1, nt i), (4, pt b1), (12, .bool false)] (by first | simp [hg3] | rfl) ?_
 refine Os 11 [(0, pt r), (1, nt i), (4, pt b1), (12, .bool false), (13, nt i), (16, pt r)] ?_
 refine Oc 29 (.tmp 16) 0 (.slice A ts.length cap) (some 17) hr rfl ?_
 refine Os 15 [(0, pt r), (1, nt i), (4, pt b1), (20, .bool (decide (i ≥ ((ts.length : Nat) : Int))))] ?_
 refine Oe ?_
 refine V_if (i ≥ ((ts.length : Nat) : Int)) (by kernel_rfl) (fun hc9 => ?_) (fun hc9 => ?_)
 ·
  refine Vr ?_
  refine Os 1 [(4, pt b1), (21, .agg (Trk.cells Trk.zero).toArray)] ?_
  refine OI_set (m := 18) (kd := true) 27 (.tmp 4) (.tmp 21) 0 (.agg (Trk.cells Trk.zero).toArray) (Trk.cells Trk.zero) none (by kernel_rfl) (by kernel_rfl) (by kernel_rfl) hb1 (by kernel_rfl) rfl (Trk.len _) (Nat.le_of_ble_eq_true (by kernel_rfl)) (Trk.one _) ?_
  intro w10 hb1_13 hk11 hz12
  replace hb1_13 : Blk w10 b1 (Trk.cells Trk.zero) 27 := (Blk.eqL (Trk.over _ _) hb1_13)
  have hsz14 := Keep.size hk11
  replace hr := hr.keep hk11 (by show ¬ (_ = _); omega)
  replace hA := SlT.keep hA hk11 (fun q hq hs => by have hs : q = b1 := hs; have g0 := hAr q hq; have g1 := hAlt q hq; omega)
  replace hR := Rfr.keep hR hk11 (fun q hq hs => by have hs : q = b1 := hs; have g0 := hHo q hq; have g1 := hHlt q hq; omega)
  replace hK0 := Keep.fresh hK0 hk11 (by intro i hi hs; first | exact hs | exact Or.inl hs | exact Or.inr hs | (exfalso; have hs2 : i = b1 := hs; omega))
  refine Os 3 [(4, pt b1), (5, .bool false)] ?_
  refine Oe ?_
  refine V_ret ?_
  refine X_ret_then ?_
  exact leave0 (.tuple #[.agg (Trk.cells Trk.zero).toArray, .bool false]) (.inl rfl) (res_agg_tmp (m := 18) rfl rfl rfl (by kernel_rfl) hb1_13 rfl) ⟨by have e9 : trkO ts i = none := if_neg hi; unfold trkA; rw [e9]; rfl, hK0⟩
 exact (by omega : False).elim

theorem rtrack_spec (H : Nat → Prop) (r g : Nat) (ts : List Trk) (rs : List Rfm) (i : Int) (w : World) (hR : Rfr H w r g ts rs) : Calls Tryz.prog 29 #[.pointer (some ⟨r, 0, none⟩), .int .i64 i] w fun e w' => e = .returned (.tuple #[.agg (trkA ts i).cells.toArray, .bool (trkO ts i).isSome]) ∧ Keep none_ w w' := by
  by_cases hi : 0 ≤ i ∧ i < ts.length
  · obtain ⟨j, rfl⟩ : ∃ j : Nat, i = j := ⟨i.toNat, by omega⟩
    exact rtrack_in H r g ts rs j w hR (by omega)
  · exact rtrack_out H r g ts rs i w hR hi

end Go.Al


namespace Go.Al
open Go Go.RowKit Go.Proofs
set_option maxRecDepth 10000 in
theorem all_at (r g n cap : Nat) (A : Option Addr) (w : World) (hr : Blk w r [.slice A n cap, .pointer (some ⟨g, 0, none⟩)] 97) : Calls Tryz.prog 48 #[pt r] w fun e w' => ∃ bg bs bn, e = .returned (.func (.func 183) #[] #[.pointer (some ⟨bg, 0, none⟩), .pointer (some ⟨bs, 0, none⟩), .pointer (some ⟨bn, 0, none⟩)]) ∧ Blk w' bg [.pointer (some ⟨g, 0, none⟩)] 95 ∧ Blk w' bs [.int .i64 0] 3 ∧ Blk w' bn [.int .i64 0] 3 ∧ Keep none_ w w' ∧ w.heap.size ≤ bg ∧ w.heap.size ≤ bs ∧ w.heap.size ≤ bn := by
 have hrlt := hr.lt
 have hK0 : Keep none_ w w := Keep.refl _ _
 have hzhK0 := Keep.size hK0
 refine enterV Tryz.func48 rfl [pt r] 11 rfl rfl rfl ?_
 refine V_pick [(0, pt r)] rfl ?_
 refine Vr ?_
 refine Os 1 [(0, pt r)] ?_
 refine Oe ?_
 refine V_seq ?_
 refine Vr ?_
 refine Os 2 [(0, pt r), (4, .bool false)] ?_
 refine Oe ?_
 refine V_false rfl ?_
 refine V_skip ?_
 refine X_then ?_
 refine Vr ?_
 refine Os 3 [(8, .pointer (some ⟨r, 1, none⟩))] ?_
 refine Oc 95 (.tmp 8) 1 (pt g) (some 9) hr rfl ?_
 refine Ok { callee := (Callee.value (Operand.func 102)), args := #[(Operand.tmp 9), (Operand.const (Value.int IntKind.i64 0))], argTypes := #[95, 3] } 102 #[pt g, nt 0] (some 10) (GQ.row_spec _ rfl 0 _) ?_
 rintro _ w1 ⟨bg3, bs4, bn5, rfl, hbg3, hbs4, hbn5, hk2, hgebg3, hgebs4, hgebn5⟩
 refine ⟨_, rfl, ?_⟩
 have hsz6 := Keep.size hk2
 replace hr := hr.keep hk2 (fun f => f)
 replace hK0 := Keep.tr hK0 (Keep.ofNone hk2)
 have hbg3lt := hbg3.lt
 have hbs4lt := hbs4.lt
 have hbn5lt := hbn5.lt
 refine Os 6 [(2, .func (.func 183) #[] #[pt bg3, pt bs4, pt bn5])] ?_
 refine Oe ?_
 refine V_ret ?_
 exact X_return _ rfl ⟨bg3, bs4, bn5, rfl, hbg3, hbs4, hbn5, hK0, by omega, by omega, by omega⟩

theorem zipQ_at0 {l : List Rfm} {k : Nat} {x : Rfm} (h : l[k]? = some x) : (zipQ 0 l)[k]? = some ((k : Int), x) := by
  have := zipQ_at l 0 k x h
  rw [Nat.zero_add] at this; exact this
theorem alongQ (bg bs bn g cap : Nat) (A : Option Addr) (rs : List Rfm) (hn : rs.length ≤ 1000) : Iter2 Tryz.prog 183 #[.pointer (some ⟨bg, 0, none⟩), .pointer (some ⟨bs, 0, none⟩), .pointer (some ⟨bn, 0, none⟩)] rs.length (GQ.enc2 (zipQ 0 rs)) (fun W => Blk W bg [pt g] 95 ∧ GQ.GrAt W g A cap (cellsQ 0 rs) ∧ GQ.AlOk bs bn 0 0 A cap (cellsQ 0 rs) W) (GQ.AlOk bs bn 0 0 A cap (cellsQ 0 rs)) := by
  have h := GQ.along1_iter0 bg bs bn g cap A (cellsQ 0 rs) 0 (by rw [cellsQ_len]; omega)
  rw [rowQ, zipQ_len] at h
  exact h
section
variable {ts : List Trk} {rs : List Rfm} {of now : Int} {x : Rfm} {k : Nat}
theorem wait_skip (h : x.state ≠ 1 ∨ x.track ≠ of) : waitB ts of now x = false ∧ decB of x = false := by
  unfold waitB decB
  rcases h with h | h
  · rw [decide_eq_true h]; exact ⟨rfl, rfl⟩
  · rw [decide_eq_true h, Bool.or_true]; exact ⟨rfl, rfl⟩
theorem wait_pre (h1 : x.state = 1) (h2 : x.track = of) : (!(decide (x.state ≠ 1) || decide (x.track ≠ of))) = true := by
  rw [decide_eq_false (fun h => h h1), decide_eq_false (fun h => h h2)]; rfl
theorem wait_dec (h1 : x.state = 1) (h2 : x.track = of) (h3 : ¬ x.since = -1) : waitB ts of now x = false ∧ decB of x = true := by
  unfold waitB decB
  rw [wait_pre h1 h2, decide_eq_false h3, decide_eq_true (show x.since ≠ -1 from h3)]; exact ⟨rfl, rfl⟩
theorem wait_no (h1 : x.state = 1) (h2 : x.track = of) (h3 : x.since = -1) (h4 : x.backer = -1 ∨ ¬ w64 (now - x.sub) ≥ (trkA ts of).prepare) : waitB ts of now x = false ∧ decB of x = false := by
  unfold waitB decB
  rw [wait_pre h1 h2, decide_eq_true h3, decide_eq_false (show ¬ (x.since ≠ -1) from fun h => h h3)]
  refine ⟨?_, rfl⟩
  rcases h4 with h | h
  · rw [decide_eq_false (show ¬ (x.backer ≠ -1) from fun h9 => h9 h)]; rfl
  · rw [decide_eq_false h]; cases decide (x.backer ≠ -1) <;> rfl
theorem wait_yes (h1 : x.state = 1) (h2 : x.track = of) (h3 : x.since = -1) (h4 : ¬ x.backer = -1) (h5 : w64 (now - x.sub) ≥ (trkA ts of).prepare) : waitB ts of now x = true ∧ decB of x = false := by
  unfold waitB decB
  rw [wait_pre h1 h2, decide_eq_true h3, decide_eq_false (show ¬ (x.since ≠ -1) from fun h => h h3), decide_eq_true (show x.backer ≠ -1 from h4), decide_eq_true h5]
  exact ⟨rfl, rfl⟩
theorem waitL_app : ∀ (l : List Rfm) (i : Nat) (x : Rfm), waitL ts of now i (l ++ [x]) = waitL ts of now i l ++ (if waitB ts of now x = true then [((i + l.length : Nat) : Int)] else [])
  | [], i, x => by
    simp only [List.nil_append, waitL, List.length_nil, Nat.add_zero]
  | y :: l, i, x => by
    simp only [List.cons_append, waitL, waitL_app l (i + 1) x, List.length_cons]
    rw [show i + 1 + l.length = i + (l.length + 1) by omega]
    split <;> rfl
theorem waitL_step (h : rs[k]? = some x) : waitL ts of now 0 (rs.take (k + 1)) = waitL ts of now 0 (rs.take k) ++ (if waitB ts of now x = true then [(k : Int)] else []) := by
  obtain ⟨h1, rfl⟩ := List.getElem?_eq_some_iff.1 h
  rw [List.take_succ_eq_append_getElem h1, waitL_app, List.length_take, Nat.min_eq_left (by omega), Nat.zero_add]
theorem decN_app : ∀ (l : List Rfm) (x : Rfm), decN of (l ++ [x]) = decN of l + (if decB of x = true then 1 else 0)
  | [], x => by simp only [List.nil_append, decN]; omega
  | y :: l, x => by simp only [List.cons_append, decN, decN_app l x]; omega
theorem decN_step (h : rs[k]? = some x) : decN of (rs.take (k + 1)) = decN of (rs.take k) + (if decB of x = true then 1 else 0) := by
  obtain ⟨h1, rfl⟩ := List.getElem?_eq_some_iff.1 h
  rw [List.take_succ_eq_append_getElem h1, decN_app]
theorem waitL_len : ∀ (l : List Rfm) (i : Nat), (waitL ts of now i l).length ≤ l.length
  | [], _ => Nat.le_refl _
  | y :: l, i => by
    have := waitL_len l (i + 1)
    simp only [waitL]
    split <;> simp only [List.length_cons] <;> omega
theorem waitL_mem {z : Int} : ∀ {l : List Rfm} {i : Nat}, z ∈ waitL ts of now i l → (i : Int) ≤ z ∧ z < ((i + l.length : Nat) : Int)
  | [], _, h => by cases h
  | y :: l, i, h => by
    simp only [waitL] at h
    simp only [List.length_cons]
    split at h
    · rcases List.mem_cons.1 h with rfl | h
      · omega
      · have := waitL_mem h; omega
    · have := waitL_mem h; omega
theorem decN_bnd : ∀ l : List Rfm, 0 ≤ decN of l ∧ decN of l ≤ l.length
  | [] => ⟨Int.le_refl _, Int.le_refl _⟩
  | y :: l => by
    have := decN_bnd l
    simp only [decN, List.length_cons]
    split <;> omega
end

set_option maxRecDepth 10000 in
theorem waits1_spec (bv : Nat) (F : Nat → Prop) (v : Nat) (s : VS) (a b : Int) (w : World) (hbv : Blk w bv [.pointer (some ⟨v, 0, none⟩)] 33) (hV : VotT F w v s) : Calls Tryz.prog 152 #[.int .i64 a, .int .i64 b, .pointer (some ⟨bv, 0, none⟩)] w fun e w' => e = .returned (.int .i64 (cmpI (tallyT s b).a (tallyT s a).a)) ∧ Keep none_ w w' := by
 have hFlt := VotT.lt hV
 have hbvlt := hbv.lt
 have hK0 : Keep none_ w w := Keep.refl _ _
 have hzhK0 := Keep.size hK0
 refine enterV Tryz.func152 rfl [nt a, nt b, pt bv] 15 rfl rfl rfl ?_
 refine V_pick [(0, nt a), (1, nt b), (2, pt bv)] rfl ?_
 refine Vr ?_
 refine Os 1 [(0, nt a), (1, nt b), (2, pt bv)] ?_
 refine Oe ?_
 refine V_seq ?_
 refine V_draws (acts [2, 6, 8]) none_ [[0, 1, 2, 4, 5, 6, 3, 7, 8, 9]] (by kernel_rfl) (by repeat first | exact sure_body (by rintro _ _ ⟨h, _⟩; exact ⟨_, h⟩) | refine sure_then ?_ | refine sure_block ?_ | refine sure_join ?_) (by kernel_rfl) ?_
 intro w2 hk1 he3 L hL4
 have hsz5 := Keep.size hk1
 replace hbv := hbv.keep hk1 (fun f => f)
 replace hV := VotT.keep hV hk1 (fun _ _ f => f)
 replace hK0 := Keep.tr hK0 (Keep.ofNone hk1)
 have qhbv := hbv
 have K6 : Keep none_ w2 w2 := Keep.refl _ _
 obtain rfl := List.mem_singleton.1 hL4
 refine Gc0 33 (.tmp 2) 0 (pt v) (some 6) qhbv rfl ?_
 refine Gs [2, 4, 5, 6, 3, 7, 8, 9] [(0, nt a), (2, pt bv), (6, pt v), (7, nt b)] ?_
 refine Gk { callee := (Callee.value (Operand.func 32)), args := #[(Operand.tmp 6), (Operand.tmp 7)], argTypes := #[33, 3] } 32 #[pt v, nt b] (some 8) (tally_spec F v s b _ (hV).1) ?_
 rintro _ w7 ⟨rfl, hk8⟩
 have K9 := K6.tr (Keep.ofNone hk8)
 refine ⟨_, rfl, K9, ?_⟩
 have hzK9 := Keep.size K9
 have hsz10 := Keep.size hk8
 replace hbv := hbv.keep hk8 (fun f => f)
 replace hV := VotT.keep hV hk8 (fun _ _ f => f)
 replace hK0 := Keep.tr hK0 (Keep.ofNone hk8)
 refine Gc0 33 (.tmp 2) 0 (pt v) (some 10) qhbv rfl ?_
 refine Gs [6, 3, 7, 8, 9] [(8, .agg (Tly.cells (tallyT s b)).toArray), (10, pt v), (11, nt a)] ?_
 refine Gk0 { callee := (Callee.value (Operand.func 32)), args := #[(Operand.tmp 10), (Operand.tmp 11)], argTypes := #[33, 3] } 32 #[pt v, nt a] (some 12) (tally_spec F v s a _ (hV).1) ?_
 rintro _ w11 ⟨rfl, hk12⟩
 refine ⟨_, rfl, ?_⟩
 have hsz13 := Keep.size hk12
 replace hbv := hbv.keep hk12 (fun f => f)
 replace hV := VotT.keep hV hk12 (fun _ _ f => f)
 replace hK0 := Keep.tr hK0 (Keep.ofNone hk12)
 refine Gs [8, 9] [(9, nt ((tallyT s b).a)), (13, nt ((tallyT s a).a))] ?_
 refine Gk0 { callee := (Callee.value (Operand.func 147)), args := #[(Operand.tmp 9), (Operand.tmp 13)], argTypes := #[3, 3] } 147 #[nt ((tallyT s b).a), nt ((tallyT s a).a)] (some 14) (compare_spec ((tallyT s b).a) ((tallyT s a).a) _) ?_
 rintro _ w11 ⟨rfl, rfl⟩
 refine ⟨_, rfl, ?_⟩
 refine Gs [] [(5, nt (cmpI ((tallyT s b).a) ((tallyT s a).a)))] ?_
 refine GI_end ?_
 refine X_then ?_
 refine V_ret ?_
 exact X_return (nt (cmpI ((tallyT s b).a) ((tallyT s a).a))) rfl ⟨rfl, hK0⟩
end Go.Al


namespace Go.Al
open Go Go.RowKit Go.Proofs
set_option maxRecDepth 10000 in
set_option maxHeartbeats 2000000 in
theorem waits_spec (H : Nat → Prop) (r g : Nat) (ts : List Trk) (rs : List Rfm) (F : Nat → Prop) (v : Nat) (s : VS) (j : Nat) (now : Int) (w : World) (hR : Rfr H w r g ts rs) (hV : VotT F w v s) (hHF : ∀ q, H q → ¬ F q) (hj : j < ts.length) : Calls Tryz.prog 103 #[.pointer (some ⟨r, 0, none⟩), .pointer (some ⟨v, 0, none⟩), .int .i64 (j : Int), .int .i64 now] w fun e w' => ∃ A' cap', e = .returned (.tuple #[.slice A' (waitL ts (j : Int) now 0 rs).length cap', .int .i64 (decN (j : Int) rs)]) ∧ SlT w' 1 intc A' cap' (sortD (fun r => (tallyT s r).a) (waitL ts (j : Int) now 0 rs)) ∧ (∀ q, inA A' q → w.heap.size ≤ q) ∧ Keep none_ w w' := by
 have hHlt := Rfr.lt hR
 have hrH := Rfr.at_ hR
 have hgH := Rfr.atg hR
 have hrlt := hHlt _ hrH
 have hglt := hHlt _ hgH
 have hin := Rfr.inn hR
 obtain ⟨A, cap, hr, hA, hAo, hrg⟩ := Rfr.parts hR
 have hAlt := SlT.lt hA
 have hAr : ∀ q, inA A q → q ≠ r ∧ q ≠ g ∧ q < w.heap.size := fun q hq => ⟨(hAo q hq).2.1, (hAo q hq).2.2, hAlt q hq⟩
 have hgo : ∀ q, only g q → q ≠ r ∧ q = g := fun q hq => ⟨fun e => hrg (e.symm.trans hq), hq⟩
 have hgl : ∀ q, only g q → q < w.heap.size := fun q hq => by rw [show q = g from hq]; exact hglt
 have hHo : ∀ q, H q → 0 ≤ q := fun q _ => Nat.zero_le q
 have htl := hin.tl
 have hrl := hin.rl
 have hFlt := VotT.lt hV
 have hvlt := hFlt _ (VotT.at_ hV)
 have hVr : ∀ q, F q → q ≠ r := fun q hq e => hHF r hrH (e ▸ hq)
 obtain ⟨j9, hjj, _, htk, htm⟩ := trkA_at (ts := ts) (i := (j : Int)) (by omega)
 rw [show j9 = j by omega] at htk
 have hK0 : Keep none_ w w := Keep.refl _ _
 have hzhK0 := Keep.size hK0
 refine enterM Tryz.func103 rfl [pt r, pt v, nt ((j : Nat) : Int), nt now] 62 rfl rfl rfl ?_
 refine V_pick [(0, pt r), (1, pt v), (2, nt ((j : Nat) : Int)), (3, nt now)] rfl ?_
 refine Vr ?_
 refine OI_box 34 (.tmp 0) (pt r) [pt r] (some 4) (by kernel_rfl) (by kernel_rfl) (by kernel_rfl) ?_
 intro b1 w1 e1 hb1 k1 z1
 have hsz2 := Keep.size k1
 replace hr := hr.keep k1 (fun f => f)
 replace hA := SlT.keep0 hA k1
 replace hR := Rfr.keep hR k1 (fun _ _ f => f)
 replace hV := VotT.keep hV k1 (fun _ _ f => f)
 replace hK0 := Keep.tr hK0 (Keep.ofNone k1)
 have hb1lt := hb1.lt
 refine OI_box 33 (.tmp 1) (pt v) [pt v] (some 5) (by kernel_rfl) (by kernel_rfl) (by kernel_rfl) ?_
 intro b3 w3 e3 hb3 k3 z3
 have hsz4 := Keep.size k3
 replace hr := hr.keep k3 (fun f => f)
 replace hb1 := hb1.keep k3 (fun f => f)
 replace hA := SlT.keep0 hA k3
 replace hR := Rfr.keep hR k3 (fun _ _ f => f)
 replace hV := VotT.keep hV k3 (fun _ _ f => f)
 replace hK0 := Keep.tr hK0 (Keep.ofNone k3)
 have hb3lt := hb3.lt
 refine OI_box 3 (.tmp 2) (nt ((j : Nat) : Int)) [nt ((j : Nat) : Int)] (some 6) (by kernel_rfl) (by kernel_rfl) (by kernel_rfl) ?_
 intro b5 w5 e5 hb5 k5 z5
 have hsz6 := Keep.size k5
 replace hr := hr.keep k5 (fun f => f)
 replace hb1 := hb1.keep k5 (fun f => f)
 replace hb3 := hb3.keep k5 (fun f => f)
 replace hA := SlT.keep0 hA k5
 replace hR := Rfr.keep hR k5 (fun _ _ f => f)
 replace hV := VotT.keep hV k5 (fun _ _ f => f)
 replace hK0 := Keep.tr hK0 (Keep.ofNone k5)
 have hb5lt := hb5.lt
 refine OI_box 3 (.tmp 3) (nt now) [nt now] (some 7) (by kernel_rfl) (by kernel_rfl) (by kernel_rfl) ?_
 intro b7 w7 e7 hb7 k7 z7
 have hsz8 := Keep.size k7
 replace hr := hr.keep k7 (fun f => f)
 replace hb1 := hb1.keep k7 (fun f => f)
 replace hb3 := hb3.keep k7 (fun f => f)
 replace hb5 := hb5.keep k7 (fun f => f)
 replace hA := SlT.keep0 hA k7
 replace hR := Rfr.keep hR k7 (fun _ _ f => f)
 replace hV := VotT.keep hV k7 (fun _ _ f => f)
 replace hK0 := Keep.tr hK0 (Keep.ofNone k7)
 have hb7lt := hb7.lt
 refine Os 6 [(4, pt b1), (5, pt b3), (6, pt b5), (7, pt b7), (8, .slice none 0 0), (9, nt 0)] ?_
 refine Oer ?_
 refine OI_alloc 72 (.slice none 0 0) [.slice none 0 0] (some 10) (by kernel_rfl) (by kernel_rfl) (by kernel_rfl) ?_
 intro b9 w9 e9 hb9 k9 z9
 have hsz10 := Keep.size k9
 replace hr := hr.keep k9 (fun f => f)
 replace hb1 := hb1.keep k9 (fun f => f)
 replace hb3 := hb3.keep k9 (fun f => f)
 replace hb5 := hb5.keep k9 (fun f => f)
 replace hb7 := hb7.keep k9 (fun f => f)
 replace hA := SlT.keep0 hA k9
 replace hR := Rfr.keep hR k9 (fun _ _ f => f)
 replace hV := VotT.keep hV k9 (fun _ _ f => f)
 replace hK0 := Keep.tr hK0 (Keep.ofNone k9)
 have hb9lt := hb9.lt
 refine Oer ?_
 refine OI_alloc 3 (nt 0) [nt 0] (some 11) (by kernel_rfl) (by kernel_rfl) (by kernel_rfl) ?_
 intro b11 w11 e11 hb11 k11 z11
 have hsz12 := Keep.size k11
 replace hr := hr.keep k11 (fun f => f)
 replace hb1 := hb1.keep k11 (fun f => f)
 replace hb3 := hb3.keep k11 (fun f => f)
 replace hb5 := hb5.keep k11 (fun f => f)
 replace hb7 := hb7.keep k11 (fun f => f)
 replace hb9 := hb9.keep k11 (fun f => f)
 replace hA := SlT.keep0 hA k11
 replace hR := Rfr.keep hR k11 (fun _ _ f => f)
 replace hV := VotT.keep hV k11 (fun _ _ f => f)
 replace hK0 := Keep.tr hK0 (Keep.ofNone k11)
 have hb11lt := hb11.lt
 refine OI_set (m := 1) (kd := false) 3 (.tmp 11) (.const (Value.int IntKind.i64 0)) 0 (nt 0) [nt 0] none (by kernel_rfl) (by kernel_rfl) (by kernel_rfl) hb11 (by kernel_rfl) (by kernel_rfl) (by kernel_rfl) (Nat.le_of_ble_eq_true (by kernel_rfl)) (by simp [Value.oneCell']) ?_
 intro w13 hb11_16 hk14 hz15
 replace hb11_16 : Blk w13 b11 [nt 0] 3 := hb11_16
 have hsz17 := Keep.size hk14
 replace hr := hr.keep hk14 (by show ¬ (_ = _); omega)
 replace hb1 := hb1.keep hk14 (by show ¬ (_ = _); omega)
 replace hb3 := hb3.keep hk14 (by show ¬ (_ = _); omega)
 replace hb5 := hb5.keep hk14 (by show ¬ (_ = _); omega)
 replace hb7 := hb7.keep hk14 (by show ¬ (_ = _); omega)
 replace hb9 := hb9.keep hk14 (by show ¬ (_ = _); omega)
 replace hA := SlT.keep hA hk14 (fun q hq hs => by have hs : q = b11 := hs; have g0 := hAr q hq; have g1 := hAlt q hq; omega)
 replace hR := Rfr.keep hR hk14 (fun q hq hs => by have hs : q = b11 := hs; have g0 := hHo q hq; have g1 := hHlt q hq; omega)
 replace hV := VotT.keep hV hk14 (fun q hq hs => by have hs : q = b11 := hs; have g0 := hVr q hq; have g1 := hFlt q hq; omega)
 replace hK0 := Keep.fresh hK0 hk14 (by intro i hi hs; first | exact hs | exact Or.inl hs | exact Or.inr hs | (exfalso; have hs2 : i = b11 := hs; omega))
 refine Oe ?_
 refine V_seq ?_
 refine Vr ?_
 refine Oc 34 (.tmp 4) 0 (pt r) (some 14) hb1 rfl ?_
 refine Ok { callee := (Callee.value (Operand.func 48)), args := #[(Operand.tmp 14)], argTypes := #[34] } 48 #[pt r] (some 15) (all_at r g _ _ _ _ hr) ?_
 rintro _ w20 ⟨bg22, bs23, bn24, rfl, hbg22, hbs23, hbn24, hk21, hgebg22, hgebs23, hgebn24⟩
 refine ⟨_, rfl, ?_⟩
 have hsz25 := Keep.size hk21
 replace hr := hr.keep hk21 (fun f => f)
 replace hb1 := hb1.keep hk21 (fun f => f)
 replace hb3 := hb3.keep hk21 (fun f => f)
 replace hb5 := hb5.keep hk21 (fun f => f)
 replace hb7 := hb7.keep hk21 (fun f => f)
 replace hb9 := hb9.keep hk21 (fun f => f)
 replace hb11_16 := hb11_16.keep hk21 (fun f => f)
 replace hA := SlT.keep0 hA hk21
 replace hR := Rfr.keep hR hk21 (fun _ _ f => f)
 replace hV := VotT.keep hV hk21 (fun _ _ f => f)
 replace hK0 := Keep.tr hK0 (Keep.ofNone hk21)
 have hbg22lt := hbg22.lt
 have hbs23lt := hbs23.lt
 have hbn24lt := hbn24.lt
 refine Oe ?_
 refine V_block ?_
 obtain ⟨D, hD9, hDH⟩ := Rfr.grqF hR
 obtain ⟨_, _, _, _, A2, cap2, hat2, hAD2⟩ := hD9
 have hA2 := hat2.sl
 have owA2 : ∀ q, inA A2 q → q < w.heap.size := fun q hq => hHlt q (hDH q (hAD2 q hq))
 refine V_pick [(4, pt b1), (5, pt b3), (6, pt b5), (7, pt b7), (10, pt b9), (11, pt b11), (15, .func (.func 183) #[] #[pt bg22, pt bs23, pt bn24])] rfl ?_
 have hN0 : w.heap.size ≤ w20.heap.size := Keep.size hK0
 refine V_range2 (gf := 183) (caps := #[pt bg22, pt bs23, pt bn24]) (m := rs.length) (by kernel_rfl) (by kernel_rfl) (by kernel_rfl) (alongQ bg22 bs23 bn24 g cap2 A2 rs (by omega)) (⟨hbg22, hat2, ⟨hbs23, hbn24, hA2⟩⟩) (fun W W' h k => ⟨h.1.quiet k, h.2.1.quiet k, h.2.2.quiet k⟩) (GQ.enc2_size _) (fun M1 k W => ∃ Ak : Option Addr, ∃ capk : Nat, (Blk W r [.slice A ts.length cap, pt g] 97) ∧ (Blk W b1 [pt r] 34) ∧ (Blk W b3 [pt v] 33) ∧ (Blk W b5 [nt ((j : Nat) : Int)] 3) ∧ (Blk W b7 [nt now] 3) ∧ (Blk W bs23 [nt 0] 3) ∧ (Blk W bn24 [nt 0] 3) ∧ (SlT W 18 Trk.cells A cap ts) ∧ (SlT W 47 GQ.Ci.cells A2 cap2 (cellsQ 0 rs)) ∧ (VotT F W v s) ∧ (Keep none_ w W) ∧ (Blk W b9 [.slice Ak ((waitL ts ((j : Nat) : Int) now 0 (rs.take k)).length) capk] 72) ∧ (Blk W b11 [nt (decN ((j : Nat) : Int) (rs.take k))] 3) ∧ (SlT W 1 intc Ak capk (waitL ts ((j : Nat) : Int) now 0 (rs.take k))) ∧ (∀ q, inA Ak q → M1 ≤ q)) (fun M1 c k W => False) (fun M1 k W W' h hk => by obtain ⟨Ak, capk, jr, jb1, jb3, jb5, jb7, jbs23, jbn24, jA, jA2, jhV, jhK0, jb9, jb11, jAk, ownk⟩ := h; exact ⟨Ak, capk, jr.quiet hk, jb1.quiet hk, jb3.quiet hk, jb5.quiet hk, jb7.quiet hk, jbs23.quiet hk, jbn24.quiet hk, jA.quiet hk, jA2.quiet hk, VotT.quiet jhV hk, jhK0.quiet hk (by omega), jb9.quiet hk, jb11.quiet hk, jAk.quiet hk, ownk⟩) (fun _ _ _ _ _ h _ => h.elim) (fun M1 hM1 => ⟨none, 0, hr, hb1, hb3, hb5, hb7, hbs23, hbn24, hA, hA2, hV, hK0, hb9, hb11_16, SlT.nil _ _ _, fun q h => (inA_none h).elim⟩) (fun M1 k W h => by obtain ⟨Ak, capk, jr, jb1, jb3, jb5, jb7, jbs23, jbn24, jA, jA2, jhV, jhK0, jb9, jb11, jAk, ownk⟩ := h; exact ⟨jbs23, jbn24, jA2⟩) ?_ ?_ (fun _ _ _ _ _ _ _ _ h _ => h.elim)
 ·
  intro lp D M1 k W hD hl hM hMW hkm ⟨Ak, capk, jr, jb1, jb3, jb5, jb7, jbs23, jbn24, jA, jA2, jhV, jhK0, jb9, jb11, jAk, ownk⟩ ⟨rr, hrr⟩ hDD
  have hzjhK0 := Keep.size jhK0
  have hrlt := jr.lt
  have hb1lt := jb1.lt
  have hb3lt := jb3.lt
  have hb5lt := jb5.lt
  have hb7lt := jb7.lt
  have hb9lt := jb9.lt
  have hb11lt := jb11.lt
  have hbs23lt := jbs23.lt
  have hbn24lt := jbn24.lt
  have ltjA := SlT.lt jA
  have ltjA2 := SlT.lt jA2
  have ltjAk := SlT.lt jAk
  obtain ⟨x, hx⟩ : ∃ x, rs[k]? = some x := ⟨_, List.getElem?_eq_getElem (by omega)⟩
  rw [GQ.enc2_at (zipQ_at0 hx)]
  have hst1 := waitL_step (ts := ts) (of := ((j : Nat) : Int)) (now := now) hx
  have hst2 := decN_step (of := ((j : Nat) : Int)) hx
  have hwl : (waitL ts ((j : Nat) : Int) now 0 (rs.take k)).length ≤ 12 := Nat.le_trans (waitL_len _ 0) (by rw [List.length_take]; omega)
  have hdn := decN_bnd (of := ((j : Nat) : Int)) (rs.take k)
  have hdl : (rs.take k).length ≤ 12 := by rw [List.length_take]; omega
  refine V_pick [(4, pt b1), (6, pt b5), (7, pt b7), (10, pt b9), (11, pt b11), (16, nt ((k : Nat) : Int)), (17, .agg (Rfm.cells x).toArray)] rfl ?_
  have hfen : Keep (fen w20.heap.size M1) W W := Keep.refl _ _
  have hzhfen := Keep.size hfen
  refine Vr ?_
  refine Os 1 [(4, pt b1), (6, pt b5), (7, pt b7), (10, pt b9), (11, pt b11), (12, nt ((k : Nat) : Int)), (17, .agg (Rfm.cells x).toArray)] ?_
  refine Oe ?_
  refine V_region ?_
  refine OI_alloc 57 (.agg (Rfm.cells Rfm.zero).toArray) (Rfm.cells Rfm.zero) (some 13) (by kernel_rfl) (by kernel_rfl) (by kernel_rfl) ?_
  intro b26 w26 e26 hb26 k26 z26
  have hsz27 := Keep.size k26
  replace jr := jr.keep k26 (fun f => f)
  replace jb1 := jb1.keep k26 (fun f => f)
  replace jb3 := jb3.keep k26 (fun f => f)
  replace jb5 := jb5.keep k26 (fun f => f)
  replace jb7 := jb7.keep k26 (fun f => f)
  replace jb9 := jb9.keep k26 (fun f => f)
  replace jb11 := jb11.keep k26 (fun f => f)
  replace jbs23 := jbs23.keep k26 (fun f => f)
  replace jbn24 := jbn24.keep k26 (fun f => f)
  replace jA := SlT.keep0 jA k26
  replace jA2 := SlT.keep0 jA2 k26
  replace jAk := SlT.keep0 jAk k26
  replace jhV := VotT.keep jhV k26 (fun _ _ f => f)
  replace jhK0 := Keep.tr jhK0 (Keep.ofNone k26)
  replace hfen := Keep.tr hfen (Keep.ofNone k26)
  have hb26lt := hb26.lt
  refine OI_set (m := 45) (kd := true) 57 (.tmp 13) (.tmp 17) 0 (.agg (Rfm.cells x).toArray) (Rfm.cells x) none (by kernel_rfl) (by kernel_rfl) (by kernel_rfl) hb26 (by kernel_rfl) rfl (Rfm.len _) (Nat.le_of_ble_eq_true (by kernel_rfl)) (Rfm.one _) ?_
  intro w28 hb26_31 hk29 hz30
  replace hb26_31 : Blk w28 b26 (Rfm.cells x) 57 := (Blk.eqL (Rfm.over _ _) hb26_31)
  have hsz32 := Keep.size hk29
  replace jr := jr.keep hk29 (by show ¬ (_ = _); omega)
  replace jb1 := jb1.keep hk29 (by show ¬ (_ = _); omega)
  replace jb3 := jb3.keep hk29 (by show ¬ (_ = _); omega)
  replace jb5 := jb5.keep hk29 (by show ¬ (_ = _); omega)
  replace jb7 := jb7.keep hk29 (by show ¬ (_ = _); omega)
  replace jb9 := jb9.keep hk29 (by show ¬ (_ = _); omega)
  replace jb11 := jb11.keep hk29 (by show ¬ (_ = _); omega)
  replace jbs23 := jbs23.keep hk29 (by show ¬ (_ = _); omega)
  replace jbn24 := jbn24.keep hk29 (by show ¬ (_ = _); omega)
  replace jA := SlT.keep jA hk29 (fun q hq hs => by have hs : q = b26 := hs; have g0 := hAr q hq; have g1 := ltjA q hq; omega)
  replace jA2 := SlT.keep jA2 hk29 (fun q hq hs => by have hs : q = b26 := hs; have g0 := owA2 q hq; have g1 := ltjA2 q hq; omega)
  replace jAk := SlT.keep jAk hk29 (fun q hq hs => by have hs : q = b26 := hs; have g0 := ownk q hq; have g1 := ltjAk q hq; omega)
  replace jhV := VotT.keep jhV hk29 (fun q hq hs => by have hs : q = b26 := hs; have g0 := hVr q hq; have g1 := hFlt q hq; omega)
  replace jhK0 := Keep.fresh jhK0 hk29 (by intro i hi hs; first | exact hs | exact Or.inl hs | exact Or.inr hs | (exfalso; have hs2 : i = b26 := hs; omega))
  replace hfen := Keep.fresh hfen hk29 (by intro i hi hs; have hs2 : i = b26 := hs; show _ ∨ _; omega)
  refine OI_end rfl ?_
  refine X_begin2 hfen ?_
  intro W2 hk2 ⟨r2, hr2⟩ hD2
  have hsz33 := Keep.size hk2
  replace jr := Blk.quiet jr hk2
  replace jb1 := Blk.quiet jb1 hk2
  replace jb3 := Blk.quiet jb3 hk2
  replace jb5 := Blk.quiet jb5 hk2
  replace jb7 := Blk.quiet jb7 hk2
  replace jb9 := Blk.quiet jb9 hk2
  replace jb11 := Blk.quiet jb11 hk2
  replace jbs23 := Blk.quiet jbs23 hk2
  replace jbn24 := Blk.quiet jbn24 hk2
  replace hb26_31 := Blk.quiet hb26_31 hk2
  replace jA := SlT.quiet jA hk2
  replace jA2 := SlT.quiet jA2 hk2
  replace jAk := SlT.quiet jAk hk2
  replace jhV := VotT.quiet jhV hk2
  replace jhK0 := Keep.quiet jhK0 hk2 (by omega)
  have hzhk2 := Keep.size hk2
  have hfenb : Keep (fen w20.heap.size M1) W2 W2 := Keep.refl _ _
  have hzhfenb := Keep.size hfenb
  refine V_block ?_
  refine V_block ?_
  refine Vr ?_
  refine Os 1 [(4, pt b1), (6, pt b5), (7, pt b7), (10, pt b9), (11, pt b11), (12, nt ((k : Nat) : Int)), (13, pt b26), (19, pt b26)] ?_
  refine Oc 3 (.tmp 19) 0 (nt x.state) (some 20) hb26_31 rfl ?_
  refine Os 4 [(4, pt b1), (6, pt b5), (7, pt b7), (10, pt b9), (11, pt b11), (12, nt ((k : Nat) : Int)), (13, pt b26), (22, .bool (!(decide (x.state = 1))))] ?_
  by_cases hg34 : x.state = 1
  ·
   refine OI_eq [(4, pt b1), (6, pt b5), (7, pt b7), (10, pt b9), (11, pt b11), (12, nt ((k : Nat) : Int)), (13, pt b26), (22, .bool false)] (by first | simp [hg34] | rfl) ?_
   refine Os 5 [(4, pt b1), (6, pt b5), (7, pt b7), (10, pt b9), (11, pt b11), (12, nt ((k : Nat) : Int)), (13, pt b26), (22, .bool false), (23, .pointer (some ⟨b26, 1, none⟩))] ?_
   refine Oc 3 (.tmp 23) 1 (nt x.track) (some 24) hb26_31 rfl ?_
   refine Oc 3 (.tmp 6) 0 (nt ((j : Nat) : Int)) (some 25) jb5 rfl ?_
   refine Os 10 [(4, pt b1), (6, pt b5), (7, pt b7), (10, pt b9), (11, pt b11), (12, nt ((k : Nat) : Int)), (13, pt b26), (18, .bool (!(decide (x.track = ((j : Nat) : Int)))))] ?_
   refine Oe ?_
   refine V_not (x.track = ((j : Nat) : Int)) (by kernel_rfl) (fun hc35 => ?_) (fun hc35 => ?_)
   ·
    refine V_skip ?_
    refine X_block ?_
    refine X_block ?_
    obtain ⟨hwa, hwb⟩ : waitB ts ((j : Nat) : Int) now x = false ∧ decB ((j : Nat) : Int) x = false := wait_skip (.inr hc35)
    rw [hwa] at hst1
    rw [hwb] at hst2
    replace hst1 := hst1.trans (show _ ++ [] = _ from List.append_nil _)
    replace hst2 := hst2.trans (show _ + 0 = _ from Int.add_zero _)
    exact fun a _ => ⟨hfenb, Ak, capk, jr, jb1, jb3, jb5, jb7, jbs23, jbn24, jA, jA2, jhV, jhK0, by rw [hst1]; exact jb9, by rw [hst2]; exact jb11, by rw [hst1]; exact jAk, ownk⟩
   refine Vr ?_
   refine Os 1 [(4, pt b1), (6, pt b5), (7, pt b7), (10, pt b9), (11, pt b11), (12, nt ((k : Nat) : Int)), (13, pt b26), (29, .pointer (some ⟨b26, 39, none⟩))] ?_
   refine Oc 3 (.tmp 29) 39 (nt x.since) (some 30) hb26_31 rfl ?_
   refine Os 4 [(4, pt b1), (6, pt b5), (7, pt b7), (10, pt b9), (11, pt b11), (12, nt ((k : Nat) : Int)), (13, pt b26), (28, .bool (!(decide (x.since = -1))))] ?_
   refine Oe ?_
   refine V_not (x.since = -1) (by kernel_rfl) (fun hc36 => ?_) (fun hc36 => ?_)
   ·
    refine V_region ?_
    refine Oc 3 (.tmp 11) 0 (nt (decN ((j : Nat) : Int) (rs.take k))) (some 32) jb11 rfl ?_
    have hw37 : IntKind.i64.wrap ((decN ((j : Nat) : Int) (rs.take k)) + 1) = (decN ((j : Nat) : Int) (rs.take k)) + 1 := (wrap64_id (by omega) (by omega)).trans (by omega)
    refine Os 2 [(11, pt b11), (33, nt (IntKind.i64.wrap ((decN ((j : Nat) : Int) (rs.take k)) + 1)))] ?_
    refine OI_eq [(11, pt b11), (33, nt ((decN ((j : Nat) : Int) (rs.take k)) + 1))] (by rw [hw37]) ?_
    refine OI_set (m := 1) (kd := false) 3 (.tmp 11) (.tmp 33) 0 (nt ((decN ((j : Nat) : Int) (rs.take k)) + 1)) [nt ((decN ((j : Nat) : Int) (rs.take k)) + 1)] none (by kernel_rfl) (by kernel_rfl) (by kernel_rfl) jb11 (by kernel_rfl) (by kernel_rfl) (by kernel_rfl) (Nat.le_of_ble_eq_true (by kernel_rfl)) (by simp [Value.oneCell']) ?_
    intro w38 hb11_41 hk39 hz40
    replace hb11_41 : Blk w38 b11 [nt ((decN ((j : Nat) : Int) (rs.take k)) + 1)] 3 := hb11_41
    have hsz42 := Keep.size hk39
    replace jr := jr.keep hk39 (by show ¬ (_ = _); omega)
    replace jb1 := jb1.keep hk39 (by show ¬ (_ = _); omega)
    replace jb3 := jb3.keep hk39 (by show ¬ (_ = _); omega)
    replace jb5 := jb5.keep hk39 (by show ¬ (_ = _); omega)
    replace jb7 := jb7.keep hk39 (by show ¬ (_ = _); omega)
    replace jb9 := jb9.keep hk39 (by show ¬ (_ = _); omega)
    replace jbs23 := jbs23.keep hk39 (by show ¬ (_ = _); omega)
    replace jbn24 := jbn24.keep hk39 (by show ¬ (_ = _); omega)
    replace hb26_31 := hb26_31.keep hk39 (by show ¬ (_ = _); omega)
    replace jA := SlT.keep jA hk39 (fun q hq hs => by have hs : q = b11 := hs; have g0 := hAr q hq; have g1 := ltjA q hq; omega)
    replace jA2 := SlT.keep jA2 hk39 (fun q hq hs => by have hs : q = b11 := hs; have g0 := owA2 q hq; have g1 := ltjA2 q hq; omega)
    replace jAk := SlT.keep jAk hk39 (fun q hq hs => by have hs : q = b11 := hs; have g0 := ownk q hq; have g1 := ltjAk q hq; omega)
    replace jhV := VotT.keep jhV hk39 (fun q hq hs => by have hs : q = b11 := hs; have g0 := hVr q hq; have g1 := hFlt q hq; omega)
    replace jhK0 := Keep.fresh jhK0 hk39 (by intro i hi hs; first | exact hs | exact Or.inl hs | exact Or.inr hs | (exfalso; have hs2 : i = b11 := hs; omega))
    replace hfenb := Keep.fresh hfenb hk39 (by intro i hi hs; have hs2 : i = b11 := hs; show _ ∨ _; omega)
    refine OI_end rfl ?_
    refine X_block ?_
    refine X_block ?_
    obtain ⟨hwa, hwb⟩ : waitB ts ((j : Nat) : Int) now x = false ∧ decB ((j : Nat) : Int) x = true := wait_dec hg34 hc35 hc36
    rw [hwa] at hst1
    rw [hwb] at hst2
    replace hst1 := hst1.trans (show _ ++ [] = _ from List.append_nil _)
    replace hst2 := hst2
    replace hst2 := hst2.trans (show _ + 1 = decN ((j : Nat) : Int) (rs.take k) + 1 from rfl)
    exact fun a _ => ⟨hfenb, Ak, capk, jr, jb1, jb3, jb5, jb7, jbs23, jbn24, jA, jA2, jhV, jhK0, by rw [hst1]; exact jb9, by rw [hst2]; exact hb11_41, by rw [hst1]; exact jAk, ownk⟩
   refine V_seq ?_
   refine V_draws (acts []) none_ [[0, 1, 2, 3, 4, 5, 6, 7, 8, 9, 10, 11, 12, 13, 14, 15, 16, 17, 18]] (by kernel_rfl) (by repeat first | exact (by first | exact sure_postM | exact sure_rQ2 | exact sure_no) | refine sure_then ?_ | refine sure_block ?_ | refine sure_join ?_) (by kernel_rfl) ?_
   intro w44 hk43 he45 L hL46
   have hsz47 := Keep.size hk43
   replace jr := jr.keep hk43 (fun f => f)
   replace jb1 := jb1.keep hk43 (fun f => f)
   replace jb3 := jb3.keep hk43 (fun f => f)
   replace jb5 := jb5.keep hk43 (fun f => f)
   replace jb7 := jb7.keep hk43 (fun f => f)
   replace jb9 := jb9.keep hk43 (fun f => f)
   replace jb11 := jb11.keep hk43 (fun f => f)
   replace jbs23 := jbs23.keep hk43 (fun f => f)
   replace jbn24 := jbn24.keep hk43 (fun f => f)
   replace hb26_31 := hb26_31.keep hk43 (fun f => f)
   replace jA := SlT.keep0 jA hk43
   replace jA2 := SlT.keep0 jA2 hk43
   replace jAk := SlT.keep0 jAk hk43
   replace jhV := VotT.keep jhV hk43 (fun _ _ f => f)
   replace jhK0 := Keep.tr jhK0 (Keep.ofNone hk43)
   replace hfenb := Keep.tr hfenb (Keep.ofNone hk43)
   have qjr := jr
   have qjb1 := jb1
   have qjb3 := jb3
   have qjb5 := jb5
   have qjb7 := jb7
   have qjb9 := jb9
   have qjb11 := jb11
   have qjbs23 := jbs23
   have qjbn24 := jbn24
   have qhb26_31 := hb26_31
   have K48 : Keep none_ w44 w44 := Keep.refl _ _
   obtain rfl := List.mem_singleton.1 hL46
   refine Gs [1, 2, 3, 4, 5, 6, 7, 8, 9, 10, 11, 12, 13, 14, 15, 16, 17, 18] [(4, pt b1), (6, pt b5), (7, pt b7), (10, pt b9), (12, nt ((k : Nat) : Int)), (13, pt b26), (35, .pointer (some ⟨b26, 38, none⟩))] ?_
   refine Gc0 3 (.tmp 35) 38 (nt x.backer) (some 36) qhb26_31 rfl ?_
   refine Gs [4, 5, 6, 7, 8, 9, 10, 11, 12, 13, 14, 15, 16, 17, 18] [(4, pt b1), (6, pt b5), (7, pt b7), (10, pt b9), (12, nt ((k : Nat) : Int)), (13, pt b26), (38, .bool (!(decide (x.backer = -1))))] ?_
   by_cases hg49 : x.backer = -1
   ·
    refine GI_eq [(4, pt b1), (6, pt b5), (7, pt b7), (10, pt b9), (12, nt ((k : Nat) : Int)), (13, pt b26), (38, .bool false)] (by first | simp [hg49] | rfl) ?_
    refine Gs [] [(10, pt b9), (12, nt ((k : Nat) : Int)), (34, .bool false)] ?_
    refine GI_end ?_
    refine X_then ?_
    refine V_false rfl ?_
    refine V_skip ?_
    refine X_block ?_
    refine X_block ?_
    obtain ⟨hwa, hwb⟩ : waitB ts ((j : Nat) : Int) now x = false ∧ decB ((j : Nat) : Int) x = false := wait_no hg34 hc35 hc36 (.inl hg49)
    rw [hwa] at hst1
    rw [hwb] at hst2
    replace hst1 := hst1.trans (show _ ++ [] = _ from List.append_nil _)
    replace hst2 := hst2.trans (show _ + 0 = _ from Int.add_zero _)
    exact fun a _ => ⟨hfenb, Ak, capk, jr, jb1, jb3, jb5, jb7, jbs23, jbn24, jA, jA2, jhV, jhK0, by rw [hst1]; exact jb9, by rw [hst2]; exact jb11, by rw [hst1]; exact jAk, ownk⟩
   refine GI_eq [(4, pt b1), (6, pt b5), (7, pt b7), (10, pt b9), (12, nt ((k : Nat) : Int)), (13, pt b26), (38, .bool true)] (by first | simp [hg49] | rfl) ?_
   refine Gc0 3 (.tmp 7) 0 (nt now) (some 39) qjb7 rfl ?_
   refine Gs [6, 7, 8, 9, 10, 11, 12, 13, 14, 15, 16, 17, 18] [(4, pt b1), (6, pt b5), (10, pt b9), (12, nt ((k : Nat) : Int)), (38, .bool true), (39, nt now), (40, .pointer (some ⟨b26, 35, none⟩))] ?_
   refine Gc0 3 (.tmp 40) 35 (nt x.sub) (some 41) qhb26_31 rfl ?_
   refine Gs [8, 9, 10, 11, 12, 13, 14, 15, 16, 17, 18] [(4, pt b1), (6, pt b5), (10, pt b9), (12, nt ((k : Nat) : Int)), (38, .bool true), (42, nt (IntKind.i64.wrap (now - x.sub)))] ?_
   refine Gc0 34 (.tmp 4) 0 (pt r) (some 43) qjb1 rfl ?_
   refine Gs [11, 12, 13, 14, 15, 16, 17, 18] [(6, pt b5), (10, pt b9), (12, nt ((k : Nat) : Int)), (38, .bool true), (42, nt (IntKind.i64.wrap (now - x.sub))), (45, pt r)] ?_
   refine Gc0 29 (.tmp 45) 0 (.slice A ts.length cap) (some 46) qjr rfl ?_
   refine Gc0 3 (.tmp 6) 0 (nt ((j : Nat) : Int)) (some 47) qjb5 rfl ?_
   obtain ⟨b50, o50, L50, T50, rfl, hat50⟩ := SlT.open_ jA (by first | omega | (simp only [List.length_map]; omega) | (simp; done) | (simp; omega))
   have hb50lt := hat50.blk.lt
   have hob51 := hAr b50 ⟨_, rfl, rfl⟩
   have hob52 := ltjA b50 ⟨_, rfl, rfl⟩
   have hne53 : ∀ q, F q → q ≠ b50 := fun q hq hs => (fun q h1 h2 => hHF q (hAo q h2).1 h1) q hq ⟨_, rfl, hs⟩
   have own54 := fun q hq => And.intro (hVr q hq) (hne53 q hq)
   refine GI_pure (some 48) (.indexAddr 29 (.tmp 46) (.tmp 47)) (by kernel_rfl) (by kernel_rfl) (pure_idxN (b := b50) (o := o50) (len := ts.length) (cap := cap) (kd := .i64) (j := j) (E := 27) (sz := 18) (by_ := 144) (by kernel_rfl) (by kernel_rfl) (by kernel_rfl) (by omega)) ?_
   refine Gs [15, 16, 17, 18] [(10, pt b9), (12, nt ((k : Nat) : Int)), (38, .bool true), (42, nt (IntKind.i64.wrap (now - x.sub))), (49, .pointer (some ⟨b50, o50 + j * 18 + 2, none⟩))] ?_
   refine Gc0 3 (.tmp 49) (o50 + j * 18 + 2) (nt ((trkA ts ((j : Nat) : Int)).prepare)) (some 50) hat50.blk (At.cell hat50 (es_at htk) rfl) ?_
   refine Gs [] [(10, pt b9), (12, nt ((k : Nat) : Int)), (34, .bool (decide (IntKind.i64.wrap (now - x.sub) ≥ (trkA ts ((j : Nat) : Int)).prepare)))] ?_
   refine GI_end ?_
   refine X_then ?_
   refine V_if (IntKind.i64.wrap (now - x.sub) ≥ (trkA ts ((j : Nat) : Int)).prepare) (by kernel_rfl) (fun hc55 => ?_) (fun hc55 => ?_)
   ·
    refine V_region ?_
    refine Oc 72 (.tmp 10) 0 (.slice Ak ((waitL ts ((j : Nat) : Int) now 0 (rs.take k)).length) capk) (some 53) jb9 rfl ?_
    refine Os 2 [(10, pt b9), (53, .slice Ak ((waitL ts ((j : Nat) : Int) now 0 (rs.take k)).length) capk), (54, nt ((k : Nat) : Int))] ?_
    refine OI_slit (E := 3) (zv := nt 0) (sz := 1) (by_ := 8) 72 1 #[(0, (Operand.tmp 54))] [nt ((k : Nat) : Int)] [nt ((k : Nat) : Int)] (some 55) (by kernel_rfl) (by kernel_rfl) (by kernel_rfl) (by omega) rfl (by omega) (by intro v hv; simp only [List.mem_cons, List.not_mem_nil, or_false] at hv; rcases hv with rfl <;> rfl) (by kernel_rfl) rfl ?_
    intro b56 w56 e56 hb56 k56 z56
    have hsz57 := Keep.size k56
    replace jr := jr.keep k56 (fun f => f)
    replace jb1 := jb1.keep k56 (fun f => f)
    replace jb3 := jb3.keep k56 (fun f => f)
    replace jb5 := jb5.keep k56 (fun f => f)
    replace jb7 := jb7.keep k56 (fun f => f)
    replace jb9 := jb9.keep k56 (fun f => f)
    replace jb11 := jb11.keep k56 (fun f => f)
    replace jbs23 := jbs23.keep k56 (fun f => f)
    replace jbn24 := jbn24.keep k56 (fun f => f)
    replace hb26_31 := hb26_31.keep k56 (fun f => f)
    replace hat50 := hat50.keep k56 (fun f => f)
    replace jA := SlT.keep0 jA k56
    replace jA2 := SlT.keep0 jA2 k56
    replace jAk := SlT.keep0 jAk k56
    replace jhV := VotT.keep jhV k56 (fun _ _ f => f)
    replace jhK0 := Keep.tr jhK0 (Keep.ofNone k56)
    replace hfenb := Keep.tr hfenb (Keep.ofNone k56)
    have hb56lt := hb56.lt
    refine OI_append (t := 72) (at2 := 72) (E := 3) (E2 := 3) (sz := 1) (by_ := 8) (zv := nt 0) (m := (waitL ts ((j : Nat) : Int) now 0 (rs.take k)).length) (k := 1) (.tmp 53) (.tmp 55) (.slice Ak ((waitL ts ((j : Nat) : Int) now 0 (rs.take k)).length) capk) (.slice (some ⟨b56, 0, none⟩) 1 1) (some 56) (by kernel_rfl) (by kernel_rfl) (by kernel_rfl) (by kernel_rfl) (by kernel_rfl) (by kernel_rfl) (by kernel_rfl) (SlT.slr jAk) (slr_one hb56 (intc_len (k : Int))) (intc_one (k : Int)) (by first | omega | (simp only [List.length_nil]; omega)) (by omega) (by first | omega | (simp only [List.length_nil]; omega)) (by omega) ?_
    intro vv9 w58 hap
    obtain ⟨A58, cap58, rfl, hA58, hk58, own58x⟩ := app_one (f := intc) (xs := (waitL ts ((j : Nat) : Int) now 0 (rs.take k))) (x := (k : Int)) (A := Ak) (cap := capk) hap (fun x _ => intc_len x) (intc_len _)
    have own58 : ∀ q, inA A58 q → M1 ≤ q := fun q hq => by rcases own58x q hq with h | h; exact ownk q h; (show M1 ≤ q; omega)
    have hsz59 := Keep.size hk58
    replace jr := jr.keep hk58 (fun hs => by have h1 := ownk _ hs; have h2 := ltjAk _ hs; omega)
    replace jb1 := jb1.keep hk58 (fun hs => by have h1 := ownk _ hs; have h2 := ltjAk _ hs; omega)
    replace jb3 := jb3.keep hk58 (fun hs => by have h1 := ownk _ hs; have h2 := ltjAk _ hs; omega)
    replace jb5 := jb5.keep hk58 (fun hs => by have h1 := ownk _ hs; have h2 := ltjAk _ hs; omega)
    replace jb7 := jb7.keep hk58 (fun hs => by have h1 := ownk _ hs; have h2 := ltjAk _ hs; omega)
    replace jb9 := jb9.keep hk58 (fun hs => by have h1 := ownk _ hs; have h2 := ltjAk _ hs; omega)
    replace jb11 := jb11.keep hk58 (fun hs => by have h1 := ownk _ hs; have h2 := ltjAk _ hs; omega)
    replace jbs23 := jbs23.keep hk58 (fun hs => by have h1 := ownk _ hs; have h2 := ltjAk _ hs; omega)
    replace jbn24 := jbn24.keep hk58 (fun hs => by have h1 := ownk _ hs; have h2 := ltjAk _ hs; omega)
    replace hb26_31 := hb26_31.keep hk58 (fun hs => by have h1 := ownk _ hs; have h2 := ltjAk _ hs; omega)
    replace hat50 := hat50.keep hk58 (fun hs => by have h1 := ownk _ hs; have h2 := ltjAk _ hs; omega)
    replace jA := SlT.keep jA hk58 (fun q hq hs => by have g0 := hAr q hq; have g1 := ltjA q hq; have h1 := ownk q hs; have h2 := ltjAk q hs; omega)
    replace jA2 := SlT.keep jA2 hk58 (fun q hq hs => by have g0 := owA2 q hq; have g1 := ltjA2 q hq; have h1 := ownk q hs; have h2 := ltjAk q hs; omega)
    replace jhV := VotT.keep jhV hk58 (fun q hq hs => by have g0 := own54 q hq; have g1 := hFlt q hq; have h1 := ownk q hs; have h2 := ltjAk q hs; omega)
    replace jhK0 := Keep.fresh jhK0 hk58 (by intro i hi hs; first | exact hs | (exfalso; have h1 := ownk i hs; have h2 := ltjAk i hs; omega) | (have h1 := ownk i hs; have h2 := ltjAk i hs; show _ ∨ _; omega))
    replace hfenb := Keep.fresh hfenb hk58 (by intro i hi hs; have h1 := ownk i hs; have h2 := ltjAk i hs; show _ ∨ _; omega)
    have lt58 := SlT.lt hA58
    refine OI_set (m := 1) (kd := false) 72 (.tmp 10) (.tmp 56) 0 (.slice A58 (((waitL ts ((j : Nat) : Int) now 0 (rs.take k)) ++ [(k : Int)]).length) cap58) [.slice A58 (((waitL ts ((j : Nat) : Int) now 0 (rs.take k)) ++ [(k : Int)]).length) cap58] none (by kernel_rfl) (by kernel_rfl) (by kernel_rfl) jb9 (by kernel_rfl) (by kernel_rfl) (by kernel_rfl) (Nat.le_of_ble_eq_true (by kernel_rfl)) (by simp [Value.oneCell']) ?_
    intro w60 hb9_63 hk61 hz62
    replace hb9_63 : Blk w60 b9 [.slice A58 (((waitL ts ((j : Nat) : Int) now 0 (rs.take k)) ++ [(k : Int)]).length) cap58] 72 := hb9_63
    have hsz64 := Keep.size hk61
    replace jr := jr.keep hk61 (by show ¬ (_ = _); omega)
    replace jb1 := jb1.keep hk61 (by show ¬ (_ = _); omega)
    replace jb3 := jb3.keep hk61 (by show ¬ (_ = _); omega)
    replace jb5 := jb5.keep hk61 (by show ¬ (_ = _); omega)
    replace jb7 := jb7.keep hk61 (by show ¬ (_ = _); omega)
    replace jb11 := jb11.keep hk61 (by show ¬ (_ = _); omega)
    replace jbs23 := jbs23.keep hk61 (by show ¬ (_ = _); omega)
    replace jbn24 := jbn24.keep hk61 (by show ¬ (_ = _); omega)
    replace hb26_31 := hb26_31.keep hk61 (by show ¬ (_ = _); omega)
    replace hat50 := hat50.keep hk61 (by show ¬ (_ = _); omega)
    replace jA := SlT.keep jA hk61 (fun q hq hs => by have hs : q = b9 := hs; have g0 := hAr q hq; have g1 := ltjA q hq; omega)
    replace jA2 := SlT.keep jA2 hk61 (fun q hq hs => by have hs : q = b9 := hs; have g0 := owA2 q hq; have g1 := ltjA2 q hq; omega)
    replace hA58 := SlT.keep hA58 hk61 (fun q hq hs => by have hs : q = b9 := hs; have g0 := own58 q hq; have g1 := lt58 q hq; omega)
    replace jhV := VotT.keep jhV hk61 (fun q hq hs => by have hs : q = b9 := hs; have g0 := own54 q hq; have g1 := hFlt q hq; omega)
    replace jhK0 := Keep.fresh jhK0 hk61 (by intro i hi hs; first | exact hs | exact Or.inl hs | exact Or.inr hs | (exfalso; have hs2 : i = b9 := hs; omega))
    replace hfenb := Keep.fresh hfenb hk61 (by intro i hi hs; have hs2 : i = b9 := hs; show _ ∨ _; omega)
    refine OI_end rfl ?_
    refine X_block ?_
    refine X_block ?_
    obtain ⟨hwa, hwb⟩ : waitB ts ((j : Nat) : Int) now x = true ∧ decB ((j : Nat) : Int) x = false := wait_yes hg34 hc35 hc36 hg49 hc55
    rw [hwa] at hst1
    rw [hwb] at hst2
    replace hst1 := hst1
    replace hst2 := hst2.trans (show _ + 0 = _ from Int.add_zero _)
    replace hst1 := hst1.trans (show _ ++ [(k : Int)] = _ from rfl)
    exact fun a _ => ⟨hfenb, A58, cap58, jr, jb1, jb3, jb5, jb7, jbs23, jbn24, jA, jA2, jhV, jhK0, by rw [hst1]; exact hb9_63, by rw [hst2]; exact jb11, by rw [hst1]; exact hA58, own58⟩
   refine V_skip ?_
   refine X_block ?_
   refine X_block ?_
   obtain ⟨hwa, hwb⟩ : waitB ts ((j : Nat) : Int) now x = false ∧ decB ((j : Nat) : Int) x = false := wait_no hg34 hc35 hc36 (.inr hc55)
   rw [hwa] at hst1
   rw [hwb] at hst2
   replace hst1 := hst1.trans (show _ ++ [] = _ from List.append_nil _)
   replace hst2 := hst2.trans (show _ + 0 = _ from Int.add_zero _)
   exact fun a _ => ⟨hfenb, Ak, capk, jr, jb1, jb3, jb5, jb7, jbs23, jbn24, jA, jA2, jhV, jhK0, by rw [hst1]; exact jb9, by rw [hst2]; exact jb11, by rw [hst1]; exact jAk, ownk⟩
  refine OI_eq [(4, pt b1), (6, pt b5), (7, pt b7), (10, pt b9), (11, pt b11), (12, nt ((k : Nat) : Int)), (13, pt b26), (22, .bool true)] (by first | simp [hg34] | rfl) ?_
  refine Os 10 [(4, pt b1), (6, pt b5), (7, pt b7), (10, pt b9), (11, pt b11), (12, nt ((k : Nat) : Int)), (13, pt b26), (18, .bool true)] ?_
  refine Oe ?_
  refine V_true rfl ?_
  refine V_skip ?_
  refine X_block ?_
  refine X_block ?_
  obtain ⟨hwa, hwb⟩ : waitB ts ((j : Nat) : Int) now x = false ∧ decB ((j : Nat) : Int) x = false := wait_skip (.inl hg34)
  rw [hwa] at hst1
  rw [hwb] at hst2
  replace hst1 := hst1.trans (show _ ++ [] = _ from List.append_nil _)
  replace hst2 := hst2.trans (show _ + 0 = _ from Int.add_zero _)
  exact fun a _ => ⟨hfenb, Ak, capk, jr, jb1, jb3, jb5, jb7, jbs23, jbn24, jA, jA2, jhV, jhK0, by rw [hst1]; exact jb9, by rw [hst2]; exact jb11, by rw [hst1]; exact jAk, ownk⟩
 ·
  intro D M1 W hD hM ⟨Ak, capk, jr, jb1, jb3, jb5, jb7, jbs23, jbn24, jA, jA2, jhV, jhK0, jb9, jb11, jAk, ownk⟩ hDD
  have hzjhK0 := Keep.size jhK0
  have hrlt := jr.lt
  have hb1lt := jb1.lt
  have hb3lt := jb3.lt
  have hb5lt := jb5.lt
  have hb7lt := jb7.lt
  have hb9lt := jb9.lt
  have hb11lt := jb11.lt
  have hbs23lt := jbs23.lt
  have hbn24lt := jbn24.lt
  have ltjA := SlT.lt jA
  have ltjA2 := SlT.lt jA2
  have ltjAk := SlT.lt jAk
  rw [List.take_length] at jAk jb9 jb11
  refine X_block ?_
  refine X_then ?_
  refine Vr ?_
  refine Oc 72 (.tmp 10) 0 (.slice Ak ((waitL ts ((j : Nat) : Int) now 0 rs).length) capk) (some 57) jb9 rfl ?_
  refine Os 2 [(10, pt b9), (11, pt b11), (57, .slice Ak ((waitL ts ((j : Nat) : Int) now 0 rs).length) capk), (58, .func (.func 152) #[] #[pt b3])] ?_
  have hwl9 : (waitL ts ((j : Nat) : Int) now 0 rs).length ≤ 12 := Nat.le_trans (waitL_len rs 0) hrl
  refine Ok { callee := (Callee.value (Operand.func 151)), args := #[(Operand.tmp 57), (Operand.tmp 58)], argTypes := #[72, 128] } 151 #[.slice Ak ((waitL ts ((j : Nat) : Int) now 0 rs).length) capk, .func (.func 152) #[] #[pt b3]] (some 59) (ssort_spec Ak capk 152 (pt b3) (waitL ts ((j : Nat) : Int) now 0 rs) (fun r => (tallyT s r).a) _ jAk (by omega) (by kernel_rfl) (fun x9 y9 w9 hk9 => waits1_spec b3 F v s x9 y9 w9 (jb3.keep hk9 (fun hs => by have h3 := ownk _ hs; omega)) (VotT.keep jhV hk9 (fun q h1 h2 => by have h3 := hFlt q h1; have h4 := ownk q h2; omega)))) ?_
  rintro _ w65 ⟨rfl, hso67, hk66⟩
  refine ⟨_, rfl, ?_⟩
  have hsz68 := Keep.size hk66
  replace jr := jr.keep hk66 (fun hs => by have h1 := ownk _ hs; have h2 := ltjAk _ hs; omega)
  replace jb3 := jb3.keep hk66 (fun hs => by have h1 := ownk _ hs; have h2 := ltjAk _ hs; omega)
  replace jb9 := jb9.keep hk66 (fun hs => by have h1 := ownk _ hs; have h2 := ltjAk _ hs; omega)
  replace jb11 := jb11.keep hk66 (fun hs => by have h1 := ownk _ hs; have h2 := ltjAk _ hs; omega)
  replace jbs23 := jbs23.keep hk66 (fun hs => by have h1 := ownk _ hs; have h2 := ltjAk _ hs; omega)
  replace jbn24 := jbn24.keep hk66 (fun hs => by have h1 := ownk _ hs; have h2 := ltjAk _ hs; omega)
  replace jA := SlT.keep jA hk66 (fun q hq hs => by have g0 := hAr q hq; have g1 := ltjA q hq; have h1 := ownk q hs; have h2 := ltjAk q hs; omega)
  replace jhV := VotT.keep jhV hk66 (fun q hq hs => by have g0 := hVr q hq; have g1 := hFlt q hq; have h1 := ownk q hs; have h2 := ltjAk q hs; omega)
  replace jhK0 := Keep.fresh jhK0 hk66 (by intro i hi hs; first | exact hs | (exfalso; have h1 := ownk i hs; have h2 := ltjAk i hs; omega) | (have h1 := ownk i hs; have h2 := ltjAk i hs; show _ ∨ _; omega))
  replace hDD := (Keep.block hk66 _ (Array.getElem?_eq_some_iff.1 hDD).1 (fun hs => by have h1 := ownk _ hs; have h2 := ltjAk _ hs; omega)).trans hDD
  have lts67 := SlT.lt hso67
  refine Oe ?_
  refine V_seq ?_
  refine V_draws (acts []) none_ [[0, 1, 2, 3]] (by kernel_rfl) (by repeat first | exact (by first | exact sure_postM | exact sure_rQ2 | exact sure_no) | refine sure_then ?_ | refine sure_block ?_ | refine sure_join ?_) (by kernel_rfl) ?_
  intro w70 hk69 he71 L hL72
  have hsz73 := Keep.size hk69
  replace jr := jr.keep hk69 (fun f => f)
  replace jb9 := jb9.keep hk69 (fun f => f)
  replace jb11 := jb11.keep hk69 (fun f => f)
  replace jbs23 := jbs23.keep hk69 (fun f => f)
  replace jbn24 := jbn24.keep hk69 (fun f => f)
  replace jA := SlT.keep0 jA hk69
  replace hso67 := SlT.keep0 hso67 hk69
  replace jhV := VotT.keep jhV hk69 (fun _ _ f => f)
  replace jhK0 := Keep.tr jhK0 (Keep.ofNone hk69)
  replace hDD := (Keep.block hk69 _ (Array.getElem?_eq_some_iff.1 hDD).1 (fun f => f)).trans hDD
  have qjr := jr
  have qjb9 := jb9
  have qjb11 := jb11
  have qjbs23 := jbs23
  have qjbn24 := jbn24
  have K74 : Keep none_ w70 w70 := Keep.refl _ _
  obtain rfl := List.mem_singleton.1 hL72
  refine Gc0 72 (.tmp 10) 0 (.slice Ak ((waitL ts ((j : Nat) : Int) now 0 rs).length) capk) (some 60) qjb9 rfl ?_
  refine Gc0 3 (.tmp 11) 0 (nt (decN ((j : Nat) : Int) rs)) (some 61) qjb11 rfl ?_
  refine Gs [] [(8, .slice Ak ((waitL ts ((j : Nat) : Int) now 0 rs).length) capk), (9, nt (decN ((j : Nat) : Int) rs))] ?_
  refine GI_end ?_
  refine X_then ?_
  refine V_ret ?_
  exact leave1 (.tuple #[.slice Ak (waitL ts ((j : Nat) : Int) now 0 rs).length capk, .int .i64 (decN ((j : Nat) : Int) rs)]) (.inl rfl) hDD (fun w' hk => ⟨res_tmps rfl, ⟨Ak, capk, rfl, SlT.quiet hso67 hk, (fun q h => by have h1 := ownk q h; omega), Keep.quiet jhK0 hk (by omega)⟩⟩)
end Go.Al

