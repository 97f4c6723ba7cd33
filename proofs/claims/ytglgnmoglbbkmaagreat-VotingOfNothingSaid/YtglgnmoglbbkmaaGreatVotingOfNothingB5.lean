/-
  Put together out of 10 texts: Walks of package voting: New; the voting with its tracks. Walks of the laws of voting: the document's answer to chapter 5. Walks of the laws of voting: all votes. Walks of the laws of voting: a beginning. The laws of voting: locks; what succeeds. Walks of the laws of voting: what is lent counts. The laws of voting: a vote that is cast anew. Walks of package voting: a nil one. Walks of package voting: what is told of records. Walks of the laws of voting: a nil one.
-/
import Derived.Test.YtglgnmoglbbkmaaGreatVotingOfNothingB4
namespace Go.Al
open Go Go.RowKit Go.Proofs
def VS.zero : VS := ⟨List.replicate 12 none, [], fun _ _ => RecS.zero⟩
theorem Vot.new {F1 F2 : Nat → Prop} {w : World} {v gv gr : Nat} (h1 : GV.Grd F1 w gv []) (h2 : GR.Grd F2 w gr []) (hb : Blk w v ((List.replicate 12 none).map Value.pointer ++ [.pointer (some ⟨gv, 0, none⟩), .pointer (some ⟨gr, 0, none⟩)]) 94) (d12 : ∀ q, F1 q → ¬ F2 q) (n1 : ∀ q, F1 q → q ≠ v) (n2 : ∀ q, F2 q → q ≠ v) :
    Vot (fun q => F1 q ∨ F2 q ∨ q = v) w v ⟨gv, gr, List.replicate 12 none, []⟩ VS.zero := by
  refine ⟨F1, F2, fun q => q = v, ⟨⟨rfl, (fun c hc => by cases hc), (fun a t d hd => by cases hd)⟩, h1, h2, rfl, fun q hq => by rw [hq]; exact hb.lt, d12, n1, n2, rfl, hb, fun i hi => ?_, ?_, fun c hc => (by cases hc), fun a t => .inl ⟨rfl, rfl⟩, ?_⟩, fun _ h => .inl h, fun _ h => .inr (.inl h), fun _ h => .inr (.inr h), ?_⟩
  · left
    show (List.replicate 12 none)[i]? = some none ∧ (List.replicate 12 none)[i]? = some none
    rw [List.getElem?_replicate, List.getElem?_replicate, if_pos hi, if_pos hi]; exact ⟨rfl, rfl⟩
  · intro i j b hi
    have hi' : (List.replicate 12 (none : Option Addr))[i]? = some (some ⟨b, 0, none⟩) := hi
    rw [List.getElem?_replicate] at hi'
    split at hi' <;> cases hi'
  · intro a t a' t' q hq; cases hq
  · rintro q (h | h | rfl)
    · exact h1.lt q h
    · exact h2.lt q h
    · exact hb.lt
theorem TrkOk.zero : TrkOk VS.zero := by
  intro i q h
  have h' : (List.replicate 12 (none : Option PollS))[i]? = some (some q) := h
  rw [List.getElem?_replicate] at h'
  split at h' <;> cases h'
theorem TrkOk.setP {s : VS} (h : TrkOk s) {i : Nat} {q : PollS} (hq : 0 ≤ q.track ∧ q.track < 4) : TrkOk (s.setP i q) := by
  intro j q' e
  have e' : (s.ps.set i (some q))[j]? = some (some q') := e
  rw [List.getElem?_set] at e'
  split at e'
  · split at e'
    · simp only [Option.some.injEq] at e'; rw [← e']; exact hq
    · cases e'
  · exact h j q' e'
theorem TrkOk.poll {s : VS} (h : TrkOk s) {ref : Int} {q : PollS} (e : pollAt s ref = some q) : 0 ≤ q.track ∧ q.track < 4 := by
  unfold pollAt at e
  split at e
  · cases hg : s.ps[ref.toNat]? with
    | none => rw [hg] at e; cases e
    | some x => rw [hg] at e; exact h _ _ (by rw [hg]; exact congrArg some e)
  · cases e
theorem TrkOk.cs {s : VS} (h : TrkOk s) (c : List GV.Ci) : TrkOk { s with cs := c } := h
theorem TrkOk.setR {s : VS} (h : TrkOk s) (a t : Int) (r : RecS) : TrkOk (s.setR a t r) := h
theorem TrkOk.retally {was now : Wgt} : ∀ (l : List (Int × Vt)) {s : VS}, TrkOk s → TrkOk (retally was now s l)
  | [], s, h => h
  | c :: l, s, h => by
    refine TrkOk.retally l (s := retally1 was now s c) ?_
    unfold retally1
    split
    · rename_i q hq
      split
      · exact h.setP (show 0 ≤ q.track ∧ q.track < 4 from h _ _ hq)
      · exact h
    · exact h
theorem TrkOk.gets {s : VS} (h : TrkOk s) (a t : Int) (wt : Wgt) : TrkOk (getsS s a t wt) := TrkOk.retally _ (h.setR a t _)
theorem TrkOk.openS {s : VS} (h : TrkOk s) (ref t : Int) : TrkOk (openS s ref t) := by
  unfold Al.openS
  split
  · rename_i he
    refine h.setP ?_
    show 0 ≤ t ∧ t < 4
    unfold openE at he
    split at he
    · cases he
    · omega
  · exact h
theorem TrkOk.voteS {s : VS} (h : TrkOk s) (xs : List Acc) (who ref : Int) (x : Vt) : TrkOk (voteS xs s who ref x) := by
  unfold Al.voteS
  split
  · split
    · exact h
    · rename_i q hq; exact h.setP (show 0 ≤ q.track ∧ q.track < 4 from h.poll hq)
  · exact h
theorem TrkOk.delS {s : VS} (h : TrkOk s) (xs : List Acc) (who t to level n : Int) : TrkOk (delS xs s who t to level n) := by
  unfold Al.delS
  split
  · exact (h.setR _ _ _).gets _ _ _
  · exact h
/-- The voting at v. -/
def VotT (F : Nat → Prop) (w : World) (v : Nat) (s : VS) : Prop := VotE F w v s ∧ TrkOk s
section
variable {F S : Nat → Prop} {w w' : World} {v N : Nat} {s : VS}
theorem VotT.lt (h : VotT F w v s) : ∀ q, F q → q < w.heap.size := h.1.lt
theorem VotT.at_ (h : VotT F w v s) : F v := h.1.at_
theorem VotT.keep (h : VotT F w v s) (k : Keep S w w') (hS : ∀ q, F q → ¬ S q) : VotT F w' v s := ⟨h.1.keep k hS, h.2⟩
theorem VotT.quiet (h : VotT F w v s) (k : Keep (lb N w) w w') : VotT F w' v s := ⟨h.1.quiet k, h.2⟩
theorem VotT.inv (h : VotT F w v s) : s.Inv := h.1.inv
end

set_option maxRecDepth 10000 in
theorem new_votT (w : World) : Calls Tryz.prog 42 #[] w fun e w' => ∃ v F, e = .returned (.pointer (some ⟨v, 0, none⟩)) ∧ VotT F w' v VS.zero ∧ Keep none_ w w' ∧ (∀ q, F q → w.heap.size ≤ q) := by
 have hK0 : Keep none_ w w := Keep.refl _ _
 have hzhK0 := Keep.size hK0
 refine enterV Tryz.func42 rfl [] 5 rfl rfl rfl ?_
 refine V_pick [] rfl ?_
 refine V_seq ?_
 refine V_region ?_
 refine OI_static 1 [] (by kernel_rfl) ?_
 refine OI_end rfl ?_
 refine X_then ?_
 refine V_seq ?_
 refine V_region ?_
 refine OI_call { callee := (Callee.value (Operand.func 85)), args := #[], argTypes := #[] } 85 #[] (some 1) (by kernel_rfl) (by kernel_rfl) (by kernel_rfl) (GV.new_grd _) ?_
 rintro _ w1 ⟨g3, F4, rfl, ho5, hk2, hge6⟩
 refine ⟨_, rfl, ?_⟩
 have hsz7 := Keep.size hk2
 replace hK0 := Keep.tr hK0 (Keep.ofNone hk2)
 have own8 : ∀ q, F4 q → w.heap.size ≤ q := fun q hq => by have h1 := hge6 q hq; omega
 have lt9 := GV.Grd.lt ho5
 have hg3lt : g3 < w1.heap.size := GV.Grd.lt ho5 _ (GV.Grd.at_ ho5)
 have hg3ge := hge6 _ (GV.Grd.at_ ho5)
 refine OI_call { callee := (Callee.value (Operand.func 86)), args := #[], argTypes := #[] } 86 #[] (some 2) (by kernel_rfl) (by kernel_rfl) (by kernel_rfl) (GR.new_grd _) ?_
 rintro _ w10 ⟨g12, F13, rfl, ho14, hk11, hge15⟩
 refine ⟨_, rfl, ?_⟩
 have hsz16 := Keep.size hk11
 replace hK0 := Keep.tr hK0 (Keep.ofNone hk11)
 replace ho5 := GV.Grd.keep ho5 hk11 (fun _ _ f => f)
 have own17 : ∀ q, F13 q → w1.heap.size ≤ q := fun q hq => by have h1 := hge15 q hq; omega
 have lt18 := GR.Grd.lt ho14
 have dis19 : ∀ q, F13 q → ¬ F4 q := fun q h1 h2 => by have h3 := hge15 q h1; have h4 := lt9 q h2; omega
 have hg12lt : g12 < w10.heap.size := GR.Grd.lt ho14 _ (GR.Grd.at_ ho14)
 have hg12ge := hge15 _ (GR.Grd.at_ ho14)
 refine OI_static 3 [(3, .agg #[.pointer none, .pointer none, .pointer none, .pointer none, .pointer none, .pointer none, .pointer none, .pointer none, .pointer none, .pointer none, .pointer none, .pointer none, pt g3, pt g12])] (by kernel_rfl) ?_
 refine OI_box 94 (.tmp 3) (.agg #[.pointer none, .pointer none, .pointer none, .pointer none, .pointer none, .pointer none, .pointer none, .pointer none, .pointer none, .pointer none, .pointer none, .pointer none, pt g3, pt g12]) [.pointer none, .pointer none, .pointer none, .pointer none, .pointer none, .pointer none, .pointer none, .pointer none, .pointer none, .pointer none, .pointer none, .pointer none, pt g3, pt g12] (some 4) (by kernel_rfl) (by kernel_rfl) (by kernel_rfl) ?_
 intro b20 w20 e20 hb20 k20 z20
 have hsz21 := Keep.size k20
 replace hK0 := Keep.tr hK0 (Keep.ofNone k20)
 replace ho5 := GV.Grd.keep ho5 k20 (fun _ _ f => f)
 replace ho14 := GR.Grd.keep ho14 k20 (fun _ _ f => f)
 have hb20lt := hb20.lt
 refine OI_static 5 [(0, pt b20)] (by kernel_rfl) ?_
 refine OI_end rfl ?_
 refine X_then ?_
 refine V_ret ?_
 exact X_return _ rfl ⟨b20, _, rfl, ⟨⟨_, Vot.new (gv := g3) (gr := g12) ho5 ho14 hb20 (fun q h1 h2 => dis19 q h2 h1) (fun q hq => by have h1 := lt9 q hq; omega) (fun q hq => by have h1 := lt18 q hq; omega)⟩, TrkOk.zero⟩, hK0, fun q hq => by rcases hq with h | h | h; (have h1 := own8 q h; omega); (have h1 := own17 q h; omega); omega⟩

theorem vote_spec (F G : Nat → Prop) (v l : Nat) (s : VS) (xs : List Acc) (cs : List Ci) (who ref : Int) (x : Vt) (w : World) (h : VotT F w v s) (hl : Led G w l xs cs) (hdis : ∀ q, F q → ¬ G q) (hmax : cs.length < 100000) : Calls Tryz.prog 18 #[.pointer (some ⟨v, 0, none⟩), .pointer (some ⟨l, 0, none⟩), .int .i64 who, .int .i64 ref, .agg x.cells.toArray] w fun e w' => e = .returned (.int .i64 (voteE xs s who ref x)) ∧ (∃ F' G', VotT F' w' v (voteS xs s who ref x) ∧ Led G' w' l xs (voteC xs cs s who ref x) ∧ (∀ q, F' q → F q ∨ w.heap.size ≤ q) ∧ (∀ q, G' q → G q ∨ w.heap.size ≤ q) ∧ (∀ q, F' q → ¬ G' q)) ∧ Keep (fun q => F q ∨ G q) w w' := by
  obtain ⟨⟨P, h⟩, ht⟩ := h
  refine (vote_at F G v l P s xs cs who ref x w h hl hdis ht hmax).mono ?_
  rintro e w' ⟨rfl, ⟨F', G', h1, h2, h3⟩, hk⟩
  exact ⟨rfl, ⟨F', G', ⟨h1, ht.voteS _ _ _ _⟩, h2, h3⟩, hk⟩

theorem delegate_spec (F G : Nat → Prop) (v l : Nat) (s : VS) (xs : List Acc) (cs : List Ci) (who t to level n : Int) (w : World) (h : VotT F w v s) (hl : Led G w l xs cs) (hdis : ∀ q, F q → ¬ G q) (hmax : cs.length < 100000) : Calls Tryz.prog 17 #[.pointer (some ⟨v, 0, none⟩), .pointer (some ⟨l, 0, none⟩), .int .i64 who, .int .i64 t, .int .i64 to, .int .i64 level, .int .i64 n] w fun e w' => e = .returned (.int .i64 (delE xs s who t to level n)) ∧ (∃ F' G', VotT F' w' v (delS xs s who t to level n) ∧ Led G' w' l xs (delC2 xs cs s who t to level n) ∧ (∀ q, F' q → F q ∨ w.heap.size ≤ q) ∧ (∀ q, G' q → G q ∨ w.heap.size ≤ q) ∧ (∀ q, F' q → ¬ G' q)) ∧ Keep (fun q => F q ∨ G q) w w' := by
  obtain ⟨⟨P, h⟩, ht⟩ := h
  refine (delegate_at F G v l P s xs cs who t to level n w h hl hdis hmax).mono ?_
  rintro e w' ⟨rfl, ⟨F', G', h1, h2, h3⟩, hk⟩
  exact ⟨rfl, ⟨F', G', ⟨h1, ht.delS _ _ _ _ _ _⟩, h2, h3⟩, hk⟩

theorem open_specT (F : Nat → Prop) (v : Nat) (s : VS) (ref t : Int) (w : World) (h : VotT F w v s) : Calls Tryz.prog 16 #[.pointer (some ⟨v, 0, none⟩), .int .i64 ref, .int .i64 t] w fun e w' => e = .returned (.int .i64 (openE s ref t)) ∧ (∃ F', VotT F' w' v (openS s ref t) ∧ (∀ q, F' q → F q ∨ w.heap.size ≤ q)) ∧ Keep F w w' := by
  obtain ⟨h, ht⟩ := h
  refine (open_spec F v s ref t w h).mono ?_
  rintro e w' ⟨rfl, ⟨F', h1, h3⟩, hk⟩
  exact ⟨rfl, ⟨F', ⟨h1, ht.openS _ _⟩, h3⟩, hk⟩

end Go.Al


namespace Go.Al
open Go Go.RowKit Go.Proofs
theorem new_ok (A : Option Addr) (cap : Nat) (fs : List Int) (w : World) (hA : ArgT w 1 intc A cap fs) (hn : fs.length ≤ 100000) (hok : okP fs) : Calls Tryz.prog 29 #[.slice A fs.length cap] w fun e w' => ∃ l F, e = .returned (.tuple #[.pointer (some ⟨l, 0, none⟩), .int .i64 0]) ∧ Led F w' l (newX fs 10) [] ∧ Keep none_ w w' ∧ (∀ q, F q → w.heap.size ≤ q) :=
  (new_spec6 A cap fs w hA hn).mono (by
    rintro e w' (⟨_, h⟩ | ⟨h, _⟩)
    · exact h
    · exact absurd hok h)

end Go.Al


namespace Go.Al
open Go Go.RowKit Go.Proofs
set_option maxRecDepth 10000 in
theorem casts_nil (a t : Int) (w : World) : Calls Tryz.prog 19 #[.pointer none, .int .i64 a, .int .i64 t] w fun e w' => e = .returned (.tuple #[.slice none 0 0, .bool true]) ∧ Keep none_ w w' := by
 have hK0 : Keep none_ w w := Keep.refl _ _
 have hzhK0 := Keep.size hK0
 refine enterM Tryz.func19 rfl [.pointer none, nt a, nt t] 31 rfl rfl rfl ?_
 refine V_pick [(0, .pointer none), (1, nt a), (2, nt t)] rfl ?_
 refine V_seq ?_
 refine V_region ?_
 refine OI_alloc 39 (.slice none 0 0) [.slice none 0 0] (some 6) (by kernel_rfl) (by kernel_rfl) (by kernel_rfl) ?_
 intro b1 w1 e1 hb1 k1 z1
 have hsz2 := Keep.size k1
 replace hK0 := Keep.tr hK0 (Keep.ofNone k1)
 have hb1lt := hb1.lt
 refine OI_alloc 4 (.bool false) [.bool false] (some 7) (by kernel_rfl) (by kernel_rfl) (by kernel_rfl) ?_
 intro b3 w3 e3 hb3 k3 z3
 have hsz4 := Keep.size k3
 replace hb1 := hb1.keep k3 (fun f => f)
 replace hK0 := Keep.tr hK0 (Keep.ofNone k3)
 have hb3lt := hb3.lt
 refine OI_end rfl ?_
 refine X_then ?_
 refine V_seq ?_
 refine V_region ?_
 refine OI_static 3 [(6, pt b1), (7, pt b3), (12, .pointer none), (13, nt a), (14, nt t)] (by kernel_rfl) ?_
 refine OI_call { callee := (Callee.value (Operand.func 60)), args := #[(Operand.tmp 12), (Operand.tmp 13), (Operand.tmp 14)], argTypes := #[31, 3, 3] } 60 #[.pointer none, nt a, nt t] (some 15) (by kernel_rfl) (by kernel_rfl) (by kernel_rfl) (votesfn_spec _ rfl a t _) ?_
 rintro _ w5 ⟨bv7, bw8, bt9, rfl, hbv7, hbw8, hbt9, hk6, hgebv7, hgebw8, hgebt9⟩
 refine ⟨_, rfl, ?_⟩
 have hsz10 := Keep.size hk6
 replace hb1 := hb1.keep hk6 (fun f => f)
 replace hb3 := hb3.keep hk6 (fun f => f)
 replace hK0 := Keep.tr hK0 (Keep.ofNone hk6)
 have hbv7lt := hbv7.lt
 have hbw8lt := hbw8.lt
 have hbt9lt := hbt9.lt
 refine OI_static 5 [(6, pt b1), (7, pt b3), (8, .func (.func 94) #[] #[pt bv7, pt bw8, pt bt9])] (by kernel_rfl) ?_
 refine OI_end rfl ?_
 refine X_then ?_
 refine V_seq ?_
 refine V_seq ?_
 refine V_region ?_
 refine OI_static 2 [(6, pt b1), (7, pt b3), (8, .func (.func 94) #[] #[pt bv7, pt bw8, pt bt9]), (17, .bool false)] (by kernel_rfl) ?_
 refine OI_end rfl ?_
 refine X_then ?_
 refine V_false rfl ?_
 refine V_skip ?_
 refine X_then ?_
 refine V_seq ?_
 refine V_region ?_
 refine OI_alloc 39 (.slice none 0 0) [.slice none 0 0] (some 9) (by kernel_rfl) (by kernel_rfl) (by kernel_rfl) ?_
 intro b11 w11 e11 hb11 k11 z11
 have hsz12 := Keep.size k11
 replace hb1 := hb1.keep k11 (fun f => f)
 replace hb3 := hb3.keep k11 (fun f => f)
 replace hbv7 := hbv7.keep k11 (fun f => f)
 replace hbw8 := hbw8.keep k11 (fun f => f)
 replace hbt9 := hbt9.keep k11 (fun f => f)
 replace hK0 := Keep.tr hK0 (Keep.ofNone k11)
 have hb11lt := hb11.lt
 refine OI_end rfl ?_
 refine X_then ?_
 refine V_seq ?_
 refine V_seq ?_
 refine V_region ?_
 refine OI_static 1 [(6, pt b1), (7, pt b3), (9, pt b11), (18, .func (.func 94) #[] #[pt bv7, pt bw8, pt bt9])] (by kernel_rfl) ?_
 refine OI_end rfl ?_
 refine X_then ?_
 refine V_block ?_
 refine V_pick [(6, pt b1), (7, pt b3), (9, pt b11), (18, .func (.func 94) #[] #[pt bv7, pt bw8, pt bt9])] rfl ?_
 have hN0 : w.heap.size ≤ w11.heap.size := Keep.size hK0
 refine V_range2 (gf := 94) (caps := #[pt bv7, pt bw8, pt bt9]) (m := 0) (by kernel_rfl) (by kernel_rfl) (by kernel_rfl) (votes1_nil bv7 bw8 bt9 (fun _ => #[undef, undef])) hbv7 (fun W W' h k => h.quiet k) (fun _ => rfl) (fun M1 k W => (Blk W b1 [.slice none 0 0] 39) ∧ (Blk W b3 [.bool false] 4) ∧ (Blk W b11 [.slice none 0 0] 39) ∧ (Keep none_ w W)) (fun M1 c k W => False) (fun M1 k W W' h hk => by obtain ⟨jb1, jb3, jb11, jhK0⟩ := h; exact ⟨jb1.quiet hk, jb3.quiet hk, jb11.quiet hk, jhK0.quiet hk (by omega)⟩) (fun _ _ _ _ _ h _ => h.elim) (fun M1 hM1 => ⟨hb1, hb3, hb11, hK0⟩) (fun M1 k W h => by obtain ⟨jb1, jb3, jb11, jhK0⟩ := h; exact trivial) ?_ ?_ (fun _ _ _ _ _ _ _ _ h _ => h.elim)
 ·
  intro lp D M1 k W hD hl hM hMW hkm ⟨jb1, jb3, jb11, jhK0⟩ ⟨rr, hrr⟩ hDD
  exact absurd hkm (Nat.not_lt_zero _)
 ·
  intro D M1 W hD hM ⟨jb1, jb3, jb11, jhK0⟩ hDD
  have hzjhK0 := Keep.size jhK0
  have hb1lt := jb1.lt
  have hb3lt := jb3.lt
  have hb11lt := jb11.lt
  refine X_block ?_
  refine X_then ?_
  refine V_seq ?_
  refine V_region ?_
  refine OI_cell 39 (.tmp 9) 0 (.slice none 0 0) (some 30) (by kernel_rfl) (by kernel_rfl) jb11 (m := 1) (by kernel_rfl) rfl ?_
  refine OI_set (m := 1) (kd := false) 39 (.tmp 6) (.tmp 30) 0 (.slice none 0 0) [.slice none 0 0] none (by kernel_rfl) (by kernel_rfl) (by kernel_rfl) jb1 (by kernel_rfl) (by kernel_rfl) (by kernel_rfl) (Nat.le_of_ble_eq_true (by kernel_rfl)) (by simp [Value.oneCell']) ?_
  intro w13 hb1_16 hk14 hz15
  replace hb1_16 : Blk w13 b1 [.slice none 0 0] 39 := hb1_16
  have hsz17 := Keep.size hk14
  replace jb3 := jb3.keep hk14 (by show ¬ (_ = _); omega)
  replace jb11 := jb11.keep hk14 (by show ¬ (_ = _); omega)
  replace jhK0 := Keep.fresh jhK0 hk14 (by intro i hi hs; first | exact hs | exact Or.inl hs | exact Or.inr hs | (exfalso; have hs2 : i = b1 := hs; omega))
  replace hDD := (Keep.block hk14 _ (Array.getElem?_eq_some_iff.1 hDD).1 (by show ¬ (_ = _); omega)).trans hDD
  refine OI_set (m := 1) (kd := false) 4 (.tmp 7) (.const (Value.bool true)) 0 (.bool true) [.bool true] none (by kernel_rfl) (by kernel_rfl) (by kernel_rfl) jb3 (by kernel_rfl) (by kernel_rfl) (by kernel_rfl) (Nat.le_of_ble_eq_true (by kernel_rfl)) (by simp [Value.oneCell']) ?_
  intro w18 hb3_21 hk19 hz20
  replace hb3_21 : Blk w18 b3 [.bool true] 4 := hb3_21
  have hsz22 := Keep.size hk19
  replace hb1_16 := hb1_16.keep hk19 (by show ¬ (_ = _); omega)
  replace jb11 := jb11.keep hk19 (by show ¬ (_ = _); omega)
  replace jhK0 := Keep.fresh jhK0 hk19 (by intro i hi hs; first | exact hs | exact Or.inl hs | exact Or.inr hs | (exfalso; have hs2 : i = b3 := hs; omega))
  replace hDD := (Keep.block hk19 _ (Array.getElem?_eq_some_iff.1 hDD).1 (by show ¬ (_ = _); omega)).trans hDD
  refine OI_end rfl ?_
  refine X_then ?_
  refine V_ret ?_
  exact leave1 (.tuple #[.slice none 0 0, .bool true]) (.inl rfl) hDD (fun w' hk => ⟨res_cells2 (n1 := 1) (n2 := 1) rfl rfl rfl (by kernel_rfl) (by kernel_rfl) (Blk.quiet hb1_16 hk) (Blk.quiet hb3_21 hk) , ⟨rfl, Keep.quiet jhK0 hk (by omega)⟩⟩)

end Go.Al


namespace Go.Al
open Go Go.RowKit Go.Proofs
set_option maxRecDepth 10000 in
theorem rnew6_weak (A : Option Addr) (cap : Nat) (fs : List Int) (w : World) (hA0 : ArgT w 1 intc A cap fs) (hn : fs.length ≤ 100000) : Calls Tryz.prog 41 #[.slice A fs.length cap] w fun e w' => ∃ pv n, e = .returned (.tuple #[.pointer pv, .int .i64 n]) ∧ Keep none_ w w' := by
 have hA := hA0
 have hK0 : Keep none_ w w := Keep.refl _ _
 have hzhK0 := Keep.size hK0
 refine enterV Tryz.func41 rfl [.slice A fs.length cap] 51 rfl rfl rfl ?_
 refine V_pick [(0, .slice A fs.length cap)] rfl ?_
 refine V_seq ?_
 refine V_region ?_
 refine OI_static 2 [(0, .slice A fs.length cap)] (by kernel_rfl) ?_
 refine OI_end rfl ?_
 refine X_then ?_
 refine V_seq ?_
 refine V_seq ?_
 refine V_region ?_
 refine OI_static 3 [(0, .slice A fs.length cap), (9, .bool (decide (((fs.length : Nat) : Int) > 10)))] (by kernel_rfl) ?_
 refine OI_end rfl ?_
 refine X_then ?_
 refine V_if (((fs.length : Nat) : Int) > 10) (by kernel_rfl) (fun hc1 => ?_) (fun hc1 => ?_)
 ·
  refine V_seq ?_
  refine V_region ?_
  refine OI_static 2 [(2, .pointer none), (3, nt 1)] (by kernel_rfl) ?_
  refine OI_end rfl ?_
  refine X_then ?_
  refine V_ret ?_
  refine X_ret_then ?_
  exact X_return (.tuple #[.pointer none, nt 1]) rfl ⟨_, _, rfl, hK0⟩
 ·
  refine V_skip ?_
  refine X_then ?_
  refine V_seq ?_
  refine V_region ?_
  refine OI_make (E := 138) (sz := 3) (by_ := 40) (m := 10) (kd := .i64) (zv := .agg #[nt 0, nt 0, .slice none 0 0]) 133 (.const (Value.int IntKind.i64 10)) (.const (Value.int IntKind.i64 10)) ((List.replicate 10 [nt 0, nt 0, .slice none 0 0]).flatten) (some 10) (by kernel_rfl) (by kernel_rfl) (by kernel_rfl) (by kernel_rfl) (by kernel_rfl) (by decide) (by decide) (by kernel_rfl) ?_
  intro b2 w2 e2 hb2 k2 z2
  have hsz3 := Keep.size k2
  replace hA := ArgT.keep0 hA k2
  replace hK0 := Keep.tr hK0 (Keep.ofNone k2)
  have hb2lt := hb2.lt
  refine OI_static 2 [(0, .slice A fs.length cap), (11, .agg #[.slice (some ⟨b2, 0, none⟩) 10 10])] (by kernel_rfl) ?_
  refine OI_box 135 (.tmp 11) (.agg #[.slice (some ⟨b2, 0, none⟩) 10 10]) [.slice (some ⟨b2, 0, none⟩) 10 10] (some 12) (by kernel_rfl) (by kernel_rfl) (by kernel_rfl) ?_
  intro b4 w4 e4 hb4 k4 z4
  have hsz5 := Keep.size k4
  replace hb2 := hb2.keep k4 (fun f => f)
  replace hA := ArgT.keep0 hA k4
  replace hK0 := Keep.tr hK0 (Keep.ofNone k4)
  have hb4lt := hb4.lt
  refine OI_static 4 [(0, .slice A fs.length cap), (4, pt b4)] (by kernel_rfl) ?_
  refine OI_end rfl ?_
  refine X_then ?_
  refine V_seq ?_
  refine V_region ?_
  refine OI_static 1 [(0, .slice A fs.length cap), (4, pt b4), (5, nt 0)] (by kernel_rfl) ?_
  refine OI_end rfl ?_
  refine X_then ?_
  refine V_seq ?_
  refine V_seq ?_
  refine V_region ?_
  refine OI_static 1 [(0, .slice A fs.length cap), (4, pt b4), (5, nt 0), (6, nt 0)] (by kernel_rfl) ?_
  refine OI_end rfl ?_
  refine X_then ?_
  refine V_block ?_
  refine V_pick [(0, .slice A fs.length cap), (4, pt b4), (5, nt 0), (6, nt 0)] rfl ?_
  refine V_loop (fun k wI e => ∃ i : Nat, ∃ s5 : Int, ∃ Lx : List Value, (k + i = fs.length) ∧ (Blk wI b2 Lx 138) ∧ (Lx.length = 30) ∧ Keep (only b2) w4 wI ∧ e = [(0, .slice A fs.length cap), (4, pt b4), (5, nt s5), (6, nt ((i : Nat) : Int))]) fs.length ⟨0, 0, (List.replicate 10 [nt 0, nt 0, .slice none 0 0]).flatten, by omega, hb2, by decide, Keep.refl _ _, rfl⟩ ?_
  rintro k7 w6 _ ⟨i, s5, Lx, hki, hB, hLx, hk8, rfl⟩
  have hsz9 := Keep.size hk8
  replace hb4 := hb4.keep hk8 (by show ¬ (_ = _); omega)
  replace hA := ArgT.keep hA hk8 hA0 (fun k hk hs => by have hs : k = b2 := hs; omega)
  replace hK0 := Keep.fresh hK0 hk8 (by intro i hi hs; first | exact hs | exact Or.inl hs | exact Or.inr hs | (exfalso; have hs2 : i = b2 := hs; omega))
  have hzhk8 := Keep.size hk8
  have hb2lt := hB.lt
  refine V_seq ?_
  refine V_seq ?_
  refine V_region ?_
  refine OI_static 4 [(0, .slice A fs.length cap), (4, pt b4), (5, nt s5), (6, nt ((i : Nat) : Int)), (16, .bool (decide (((i : Nat) : Int) < ((fs.length : Nat) : Int))))] (by kernel_rfl) ?_
  refine OI_end rfl ?_
  refine X_then ?_
  refine V_if (((i : Nat) : Int) < ((fs.length : Nat) : Int)) (by kernel_rfl) (fun hc10 => ?_) (fun hc10 => ?_)
  ·
   refine V_skip ?_
   refine X_then ?_
   refine V_seq ?_
   refine V_block ?_
   refine V_seq ?_
   refine V_seq ?_
   refine V_region ?_
   refine OI_static 2 [(0, .slice A fs.length cap), (4, pt b4), (5, nt s5), (6, nt ((i : Nat) : Int)), (19, .slice A fs.length cap), (20, nt ((i : Nat) : Int))] (by kernel_rfl) ?_
   obtain ⟨b11, o11, L11, rfl, hat11⟩ := ArgT.open_ hA (by first | omega | (simp only [List.length_map]; omega) | (simp; done) | (simp; omega))
   have hb11lt0 := ArgT.lt hA0 (by first | omega | (simp only [List.length_map]; omega) | (simp; done) | (simp; omega))
   have hb11lt := hat11.blk.lt
   refine OI_pure (some 21) (.indexAddr 28 (.tmp 19) (.tmp 20)) (by kernel_rfl) (pure_idxN (b := b11) (o := o11) (len := fs.length) (cap := cap) (kd := .i64) (j := i) (E := 3) (sz := 1) (by_ := 8) (by kernel_rfl) (by kernel_rfl) (by kernel_rfl) (by omega)) ?_
   obtain ⟨x12, hx13⟩ : ∃ x, fs[i]? = some x := ⟨_, List.getElem?_eq_getElem (by first | omega | (simp only [List.length_map]; omega))⟩
   refine OI_cellR 3 (.tmp 21) (o11 + i * 1) (nt x12) (some 22) (by kernel_rfl) (by kernel_rfl) hat11.blk (m := 1) (by kernel_rfl) (AtR.cell0 hat11 (es_at hx13) rfl) ?_
   refine OI_static 6 [(0, .slice (some ⟨b11, o11, none⟩) fs.length cap), (4, pt b4), (5, nt s5), (6, nt ((i : Nat) : Int)), (24, .bool (decide (x12 < 0)))] (by kernel_rfl) ?_
   by_cases hg14 : x12 < 0
   ·
    refine OI_eq [(0, .slice (some ⟨b11, o11, none⟩) fs.length cap), (4, pt b4), (5, nt s5), (6, nt ((i : Nat) : Int)), (24, .bool true)] (by first | simp [hg14] | rfl) ?_
    refine OI_static 12 [(0, .slice (some ⟨b11, o11, none⟩) fs.length cap), (4, pt b4), (5, nt s5), (6, nt ((i : Nat) : Int)), (25, undef), (26, undef), (27, undef), (28, undef), (29, undef), (30, .bool true)] (by kernel_rfl) ?_
    refine OI_end rfl ?_
    refine X_then ?_
    refine V_true rfl ?_
    refine V_seq ?_
    refine V_region ?_
    refine OI_static 2 [(2, .pointer none), (3, nt 1)] (by kernel_rfl) ?_
    refine OI_end rfl ?_
    refine X_then ?_
    refine V_ret ?_
    refine X_ret_then ?_
    refine X_ret_block ?_
    refine X_ret_then ?_
    refine X_ret_then ?_
    refine X_ret_block ?_
    refine X_ret_then ?_
    exact X_return (.tuple #[.pointer none, nt 1]) rfl ⟨_, _, rfl, hK0⟩
   ·
    refine OI_eq [(0, .slice (some ⟨b11, o11, none⟩) fs.length cap), (4, pt b4), (5, nt s5), (6, nt ((i : Nat) : Int)), (24, .bool false)] (by first | simp [hg14] | rfl) ?_
    refine OI_static 8 [(0, .slice (some ⟨b11, o11, none⟩) fs.length cap), (4, pt b4), (5, nt s5), (6, nt ((i : Nat) : Int)), (24, .bool false), (25, .slice (some ⟨b11, o11, none⟩) fs.length cap), (26, nt ((i : Nat) : Int))] (by kernel_rfl) ?_
    refine OI_pure (some 27) (.indexAddr 28 (.tmp 25) (.tmp 26)) (by kernel_rfl) (pure_idxN (b := b11) (o := o11) (len := fs.length) (cap := cap) (kd := .i64) (j := i) (E := 3) (sz := 1) (by_ := 8) (by kernel_rfl) (by kernel_rfl) (by kernel_rfl) (by omega)) ?_
    refine OI_cellR 3 (.tmp 27) (o11 + i * 1) (nt x12) (some 28) (by kernel_rfl) (by kernel_rfl) hat11.blk (m := 1) (by kernel_rfl) (AtR.cell0 hat11 (es_at hx13) rfl) ?_
    refine OI_static 12 [(0, .slice (some ⟨b11, o11, none⟩) fs.length cap), (4, pt b4), (5, nt s5), (6, nt ((i : Nat) : Int)), (25, .slice (some ⟨b11, o11, none⟩) fs.length cap), (26, nt ((i : Nat) : Int)), (27, .pointer (some ⟨b11, o11 + i * 1, none⟩)), (28, nt x12), (29, .bool (decide (x12 > 1073741824))), (30, .bool (decide (x12 > 1073741824)))] (by kernel_rfl) ?_
    refine OI_end rfl ?_
    refine X_then ?_
    refine V_if (x12 > 1073741824) (by kernel_rfl) (fun hc15 => ?_) (fun hc15 => ?_)
    ·
     refine V_seq ?_
     refine V_region ?_
     refine OI_static 2 [(2, .pointer none), (3, nt 1)] (by kernel_rfl) ?_
     refine OI_end rfl ?_
     refine X_then ?_
     refine V_ret ?_
     refine X_ret_then ?_
     refine X_ret_block ?_
     refine X_ret_then ?_
     refine X_ret_then ?_
     refine X_ret_block ?_
     refine X_ret_then ?_
     exact X_return (.tuple #[.pointer none, nt 1]) rfl ⟨_, _, rfl, hK0⟩
    ·
     refine V_skip ?_
     refine X_then ?_
     refine V_seq ?_
     refine V_draws (acts [11]) (only b2) [[0, 1, 2, 3, 4, 5, 6, 7, 8, 9, 10, 11]] (by kernel_rfl) (by repeat first | exact sure_body (by rintro _ _ ⟨_, _, h, _⟩; exact ⟨_, h⟩) | refine sure_then ?_ | refine sure_block ?_ | refine sure_join ?_) (by kernel_rfl) ?_
     intro w17 hk16 he18 L hL19
     have hsz20 := Keep.size hk16
     replace hB := hB.keep hk16 (fun f => f)
     replace hb4 := hb4.keep hk16 (fun f => f)
     replace hat11 := hat11.keep hk16 (fun f => f)
     replace hK0 := Keep.tr hK0 (Keep.ofNone hk16)
     replace hk8 := Keep.tr hk8 (Keep.ofNone hk16)
     have qhB := hB
     have qhb4 := hb4
     have qhat11 := hat11
     have K21 : Keep (only b2) w17 w17 := Keep.refl _ _
     obtain rfl := List.mem_singleton.1 hL19
     refine GI_static [3, 4, 5, 6, 7, 8, 9, 10, 11] [(0, .slice (some ⟨b11, o11, none⟩) fs.length cap), (4, pt b4), (5, nt s5), (6, nt ((i : Nat) : Int)), (25, .slice (some ⟨b11, o11, none⟩) fs.length cap), (26, nt ((i : Nat) : Int)), (27, .pointer (some ⟨b11, o11 + i * 1, none⟩)), (28, nt x12), (29, .bool (decide (x12 > 1073741824))), (33, pt b4)] (by kernel_rfl) ?_
     refine GI_cell 133 (.tmp 33) 0 (.slice (some ⟨b2, 0, none⟩) 10 10) (some 34) (by kernel_rfl) (by kernel_rfl) (by kernel_rfl) qhb4 (by show ¬ (_ = _); omega) (m := 1) (by kernel_rfl) rfl ?_
     refine GI_static [7, 8, 9, 10, 11] [(0, .slice (some ⟨b11, o11, none⟩) fs.length cap), (4, pt b4), (5, nt s5), (6, nt ((i : Nat) : Int)), (25, .slice (some ⟨b11, o11, none⟩) fs.length cap), (26, nt ((i : Nat) : Int)), (27, .pointer (some ⟨b11, o11 + i * 1, none⟩)), (28, nt x12), (29, .bool (decide (x12 > 1073741824))), (34, .slice (some ⟨b2, 0, none⟩) 10 10), (35, nt ((i : Nat) : Int)), (36, .slice (some ⟨b11, o11, none⟩) fs.length cap), (37, nt ((i : Nat) : Int))] (by kernel_rfl) ?_
     refine GI_pure (some 38) (.indexAddr 28 (.tmp 36) (.tmp 37)) (by kernel_rfl) (by kernel_rfl) (pure_idxN (b := b11) (o := o11) (len := fs.length) (cap := cap) (kd := .i64) (j := i) (E := 3) (sz := 1) (by_ := 8) (by kernel_rfl) (by kernel_rfl) (by kernel_rfl) (by omega)) ?_
     refine GI_cellR 3 (.tmp 38) (o11 + i * 1) (nt x12) (some 39) (by kernel_rfl) (by kernel_rfl) (by kernel_rfl) qhat11.blk (by show ¬ (_ = _); omega) (m := 1) (by kernel_rfl) (AtR.cell0 qhat11 (es_at hx13) rfl) ?_
     refine GI_pure (some 40) (.indexAddr 133 (.tmp 34) (.tmp 35)) (by kernel_rfl) (by kernel_rfl) (pure_idxN (b := b2) (o := 0) (len := 10) (cap := 10) (kd := .i64) (j := i) (E := 138) (sz := 3) (by_ := 40) (by kernel_rfl) (by kernel_rfl) (by kernel_rfl) (by omega)) ?_
     refine GI_static [11] [(0, .slice (some ⟨b11, o11, none⟩) fs.length cap), (4, pt b4), (5, nt s5), (6, nt ((i : Nat) : Int)), (25, .slice (some ⟨b11, o11, none⟩) fs.length cap), (26, nt ((i : Nat) : Int)), (27, .pointer (some ⟨b11, o11 + i * 1, none⟩)), (28, nt x12), (29, .bool (decide (x12 > 1073741824))), (39, nt x12), (41, .pointer (some ⟨b2, 0 + i * 3, none⟩))] (by kernel_rfl) ?_
     refine GI_final 11 (by kernel_rfl) (by kernel_rfl) ?_
     refine OI_set (m := 1) (kd := false) 3 (.tmp 41) (.tmp 39) (0 + i * 3) (nt x12) [nt x12] none (by kernel_rfl) (by kernel_rfl) (by kernel_rfl) hB (by kernel_rfl) (by kernel_rfl) (by kernel_rfl) (by rw [hLx]; show 0 + i * 3 + 1 ≤ 30; omega) (by simp [Value.oneCell']) ?_
     intro w22 hb2_25 hk23 hz24
     replace hb2_25 : Blk w22 b2 (over Lx (0 + i * 3) [nt x12]) 138 := hb2_25
     have hsz26 := Keep.size hk23
     replace hb4 := hb4.keep hk23 (by show ¬ (_ = _); omega)
     replace hat11 := hat11.keep hk23 (by show ¬ (_ = _); omega)
     replace hK0 := Keep.fresh hK0 hk23 (by intro i hi hs; first | exact hs | exact Or.inl hs | exact Or.inr hs | (exfalso; have hs2 : i = b2 := hs; omega))
     replace hk8 := Keep.fresh hk8 hk23 (by intro i hi hs; first | exact hs | exact Or.inl hs | exact Or.inr hs | (exfalso; have hs2 : i = b2 := hs; omega))
     refine OI_end rfl ?_
     refine X_then ?_
     refine V_region ?_
     refine OI_static 3 [(0, .slice (some ⟨b11, o11, none⟩) fs.length cap), (4, pt b4), (6, nt ((i : Nat) : Int)), (25, .slice (some ⟨b11, o11, none⟩) fs.length cap), (26, nt ((i : Nat) : Int)), (27, .pointer (some ⟨b11, o11 + i * 1, none⟩)), (28, nt x12), (29, .bool (decide (x12 > 1073741824))), (42, nt s5), (43, .slice (some ⟨b11, o11, none⟩) fs.length cap), (44, nt ((i : Nat) : Int))] (by kernel_rfl) ?_
     refine OI_pure (some 45) (.indexAddr 28 (.tmp 43) (.tmp 44)) (by kernel_rfl) (pure_idxN (b := b11) (o := o11) (len := fs.length) (cap := cap) (kd := .i64) (j := i) (E := 3) (sz := 1) (by_ := 8) (by kernel_rfl) (by kernel_rfl) (by kernel_rfl) (by omega)) ?_
     refine OI_cellR 3 (.tmp 45) (o11 + i * 1) (nt x12) (some 46) (by kernel_rfl) (by kernel_rfl) hat11.blk (m := 1) (by kernel_rfl) (AtR.cell0 hat11 (es_at hx13) rfl) ?_
     refine OI_static 7 [(0, .slice (some ⟨b11, o11, none⟩) fs.length cap), (4, pt b4), (5, nt (IntKind.i64.wrap (s5 + x12))), (6, nt ((i : Nat) : Int)), (25, .slice (some ⟨b11, o11, none⟩) fs.length cap), (26, nt ((i : Nat) : Int)), (27, .pointer (some ⟨b11, o11 + i * 1, none⟩)), (28, nt x12), (29, .bool (decide (x12 > 1073741824)))] (by kernel_rfl) ?_
     refine OI_end rfl ?_
     refine X_block ?_
     refine X_then ?_
     refine V_region ?_
     have hw27 : IntKind.i64.wrap (((i : Nat) : Int) + 1) = ((i + 1 : Nat) : Int) := (wrap64_id (by omega) (by omega)).trans (by omega)
     refine OI_static 2 [(0, .slice (some ⟨b11, o11, none⟩) fs.length cap), (4, pt b4), (5, nt (IntKind.i64.wrap (s5 + x12))), (18, nt (IntKind.i64.wrap (((i : Nat) : Int) + 1))), (25, .slice (some ⟨b11, o11, none⟩) fs.length cap), (26, nt ((i : Nat) : Int)), (27, .pointer (some ⟨b11, o11 + i * 1, none⟩)), (28, nt x12), (29, .bool (decide (x12 > 1073741824)))] (by kernel_rfl) ?_
     refine OI_eq [(0, .slice (some ⟨b11, o11, none⟩) fs.length cap), (4, pt b4), (5, nt (IntKind.i64.wrap (s5 + x12))), (18, nt ((i + 1 : Nat) : Int)), (25, .slice (some ⟨b11, o11, none⟩) fs.length cap), (26, nt ((i : Nat) : Int)), (27, .pointer (some ⟨b11, o11 + i * 1, none⟩)), (28, nt x12), (29, .bool (decide (x12 > 1073741824)))] (by rw [hw27]) ?_
     refine OI_static 3 [(0, .slice (some ⟨b11, o11, none⟩) fs.length cap), (4, pt b4), (5, nt (IntKind.i64.wrap (s5 + x12))), (6, nt ((i + 1 : Nat) : Int)), (25, .slice (some ⟨b11, o11, none⟩) fs.length cap), (26, nt ((i : Nat) : Int)), (27, .pointer (some ⟨b11, o11 + i * 1, none⟩)), (28, nt x12), (29, .bool (decide (x12 > 1073741824)))] (by kernel_rfl) ?_
     refine OI_end rfl ?_
     exact V_again (k7 - 1) (by omega) [(0, .slice (some ⟨b11, o11, none⟩) fs.length cap), (4, pt b4), (5, nt (IntKind.i64.wrap (s5 + x12))), (6, nt ((i + 1 : Nat) : Int))] rfl ⟨i + 1, IntKind.i64.wrap (s5 + x12), (over Lx (0 + i * 3) [nt x12]), by omega, hb2_25, by rw [over_length (by rw [hLx]; show 0 + i * 3 + 1 ≤ 30; omega)]; exact hLx, hk8, rfl⟩
  ·
   refine V_exit ?_
   refine X_exit_then ?_
   refine X_exit_then ?_
   refine X_exit_here ?_
   refine X_then ?_
   refine V_seq ?_
   refine V_seq ?_
   refine V_region ?_
   refine OI_static 2 [(4, pt b4), (49, .bool (decide (s5 > 1073741824)))] (by kernel_rfl) ?_
   refine OI_end rfl ?_
   refine X_then ?_
   refine V_if (s5 > 1073741824) (by kernel_rfl) (fun hc28 => ?_) (fun hc28 => ?_)
   ·
    refine V_seq ?_
    refine V_region ?_
    refine OI_static 2 [(2, .pointer none), (3, nt 1)] (by kernel_rfl) ?_
    refine OI_end rfl ?_
    refine X_then ?_
    refine V_ret ?_
    refine X_ret_then ?_
    exact X_return (.tuple #[.pointer none, nt 1]) rfl ⟨_, _, rfl, hK0⟩
   ·
    refine V_skip ?_
    refine X_then ?_
    refine V_seq ?_
    refine V_region ?_
    refine OI_static 3 [(2, pt b4), (3, nt 0)] (by kernel_rfl) ?_
    refine OI_end rfl ?_
    refine X_then ?_
    refine V_ret ?_
    exact X_return (.tuple #[pt b4, nt 0]) rfl ⟨_, _, rfl, hK0⟩

set_option maxRecDepth 10000 in
theorem rnew11_weak (w : World) : Calls Tryz.prog 43 #[] w fun e w' => ∃ pv, e = .returned (.pointer pv) ∧ Keep none_ w w' := by
 have hK0 : Keep none_ w w := Keep.refl _ _
 have hzhK0 := Keep.size hK0
 refine enterV Tryz.func43 rfl [] 5 rfl rfl rfl ?_
 refine V_pick [] rfl ?_
 refine V_seq ?_
 refine V_region ?_
 refine OI_static 1 [] (by kernel_rfl) ?_
 refine OI_end rfl ?_
 refine X_then ?_
 refine V_seq ?_
 refine V_draws (acts [0, 1, 3]) none_ [[0, 1, 2, 3, 4], [1, 0, 2, 3, 4]] (by kernel_rfl) (by repeat first | exact sure_body (by rintro _ _ ⟨_, h, _⟩; exact ⟨_, h⟩) | refine sure_then ?_ | refine sure_block ?_ | refine sure_join ?_) (by kernel_rfl) ?_
 intro w2 hk1 he3 L hL4
 have hsz5 := Keep.size hk1
 replace hK0 := Keep.tr hK0 (Keep.ofNone hk1)
 have K6 : Keep none_ w2 w2 := Keep.refl _ _
 simp only [List.mem_cons, List.not_mem_nil, or_false] at hL4
 rcases hL4 with rfl | rfl
 ·
  refine GI_make (E := 73) (sz := 7) (by_ := 56) (m := 12) (kd := .i64) (zv := .agg #[.bool false, nt 0, nt 0, nt 0, nt 0, nt 0, nt 0]) 74 (.const (Value.int IntKind.i64 12)) (.const (Value.int IntKind.i64 12)) ((List.replicate 12 [.bool false, nt 0, nt 0, nt 0, nt 0, nt 0, nt 0]).flatten) (some 1) (by kernel_rfl) (by kernel_rfl) K6 (by kernel_rfl) (by kernel_rfl) (by kernel_rfl) (by kernel_rfl) (by decide) (by decide) (by kernel_rfl) ?_
  intro b7 w7 e7 hb7 k7 z7 K8
  have hsz9 := Keep.size k7
  replace hK0 := Keep.tr hK0 (Keep.ofNone k7)
  have hb7lt := hb7.lt
  refine GI_make (E := 167) (sz := 9) (by_ := 88) (m := 40) (kd := .i64) (zv := .agg #[.slice none 0 0, .bool false, nt 0, nt 0, nt 0, nt 0, nt 0, nt 0, nt 0]) 75 (.const (Value.int IntKind.i64 40)) (.const (Value.int IntKind.i64 40)) ((List.replicate 40 [.slice none 0 0, .bool false, nt 0, nt 0, nt 0, nt 0, nt 0, nt 0, nt 0]).flatten) (some 2) (by kernel_rfl) (by kernel_rfl) K8 (by kernel_rfl) (by kernel_rfl) (by kernel_rfl) (by kernel_rfl) (by decide) (by decide) (by kernel_rfl) ?_
  intro b10 w10 e10 hb10 k10 z10 K11
  have hsz12 := Keep.size k10
  replace hb7 := hb7.keep k10 (fun f => f)
  replace hK0 := Keep.tr hK0 (Keep.ofNone k10)
  have hb10lt := hb10.lt
  refine GI_static [3, 4] [(3, .agg #[.slice (some ⟨b7, 0, none⟩) 12 12, .slice (some ⟨b10, 0, none⟩) 40 40])] (by kernel_rfl) ?_
  refine GI_box 77 (.tmp 3) (.agg #[.slice (some ⟨b7, 0, none⟩) 12 12, .slice (some ⟨b10, 0, none⟩) 40 40]) [.slice (some ⟨b7, 0, none⟩) 12 12, .slice (some ⟨b10, 0, none⟩) 40 40] (some 4) (by kernel_rfl) (by kernel_rfl) K11 (by kernel_rfl) (by kernel_rfl) ?_
  intro b13 w13 e13 hb13 k13 z13 K14
  have hsz15 := Keep.size k13
  replace hb7 := hb7.keep k13 (fun f => f)
  replace hb10 := hb10.keep k13 (fun f => f)
  replace hK0 := Keep.tr hK0 (Keep.ofNone k13)
  have hb13lt := hb13.lt
  refine GI_static [] [(0, pt b13)] (by kernel_rfl) ?_
  refine GI_end ?_
  refine X_then ?_
  refine V_ret ?_
  exact X_return _ rfl ⟨_, rfl, hK0⟩
 ·
  refine GI_make (E := 167) (sz := 9) (by_ := 88) (m := 40) (kd := .i64) (zv := .agg #[.slice none 0 0, .bool false, nt 0, nt 0, nt 0, nt 0, nt 0, nt 0, nt 0]) 75 (.const (Value.int IntKind.i64 40)) (.const (Value.int IntKind.i64 40)) ((List.replicate 40 [.slice none 0 0, .bool false, nt 0, nt 0, nt 0, nt 0, nt 0, nt 0, nt 0]).flatten) (some 2) (by kernel_rfl) (by kernel_rfl) K6 (by kernel_rfl) (by kernel_rfl) (by kernel_rfl) (by kernel_rfl) (by decide) (by decide) (by kernel_rfl) ?_
  intro b16 w16 e16 hb16 k16 z16 K17
  have hsz18 := Keep.size k16
  replace hK0 := Keep.tr hK0 (Keep.ofNone k16)
  have hb16lt := hb16.lt
  refine GI_make (E := 73) (sz := 7) (by_ := 56) (m := 12) (kd := .i64) (zv := .agg #[.bool false, nt 0, nt 0, nt 0, nt 0, nt 0, nt 0]) 74 (.const (Value.int IntKind.i64 12)) (.const (Value.int IntKind.i64 12)) ((List.replicate 12 [.bool false, nt 0, nt 0, nt 0, nt 0, nt 0, nt 0]).flatten) (some 1) (by kernel_rfl) (by kernel_rfl) K17 (by kernel_rfl) (by kernel_rfl) (by kernel_rfl) (by kernel_rfl) (by decide) (by decide) (by kernel_rfl) ?_
  intro b19 w19 e19 hb19 k19 z19 K20
  have hsz21 := Keep.size k19
  replace hb16 := hb16.keep k19 (fun f => f)
  replace hK0 := Keep.tr hK0 (Keep.ofNone k19)
  have hb19lt := hb19.lt
  refine GI_static [3, 4] [(3, .agg #[.slice (some ⟨b19, 0, none⟩) 12 12, .slice (some ⟨b16, 0, none⟩) 40 40])] (by kernel_rfl) ?_
  refine GI_box 77 (.tmp 3) (.agg #[.slice (some ⟨b19, 0, none⟩) 12 12, .slice (some ⟨b16, 0, none⟩) 40 40]) [.slice (some ⟨b19, 0, none⟩) 12 12, .slice (some ⟨b16, 0, none⟩) 40 40] (some 4) (by kernel_rfl) (by kernel_rfl) K20 (by kernel_rfl) (by kernel_rfl) ?_
  intro b22 w22 e22 hb22 k22 z22 K23
  have hsz24 := Keep.size k22
  replace hb16 := hb16.keep k22 (fun f => f)
  replace hb19 := hb19.keep k22 (fun f => f)
  replace hK0 := Keep.tr hK0 (Keep.ofNone k22)
  have hb22lt := hb22.lt
  refine GI_static [] [(0, pt b22)] (by kernel_rfl) ?_
  refine GI_end ?_
  refine X_then ?_
  refine V_ret ?_
  exact X_return _ rfl ⟨_, rfl, hK0⟩

def msk24 (fs : List Int) : List Int := fs.map fun x => bAnd x 16777215
theorem msk24_at {fs : List Int} {x : Int} (h : x ∈ msk24 fs) : 0 ≤ x ∧ x ≤ 16777215 := by
  obtain ⟨y, _, rfl⟩ := List.mem_map.1 h
  exact bAnd_le y 16777215 (by decide)
theorem msk24_step {fs : List Int} {i : Nat} {x : Int} (h : fs[i]? = some x) : msk24 (fs.take (i + 1)) = msk24 (fs.take i) ++ [bAnd x 16777215] := by
  obtain ⟨h1, rfl⟩ := List.getElem?_eq_some_iff.1 h
  unfold msk24; rw [List.take_succ_eq_append_getElem h1, List.map_append]; rfl
theorem tot_newX_step (fs : List Int) (n : Nat) : tot (newX fs (n + 1)) = tot (newX fs n) + (fs[n]?).getD 0 := by
  have happ : ∀ (a b : List Acc), tot (a ++ b) = tot a + tot b := by
    intro a b
    induction a with
    | nil => simp [tot]
    | cons y l ih => simp only [List.cons_append, tot, ih]; omega
  rw [newX_succ, happ]
  simp only [tot]
  omega
theorem newX_tot24 {fs : List Int} (h : ∀ x ∈ fs, 0 ≤ x ∧ x ≤ 16777215) : ∀ i : Nat, tot (newX fs i) ≤ i * 16777215
  | 0 => by simp [newX, tot]
  | i + 1 => by
    have ih := newX_tot24 h i
    rw [tot_newX_step]
    have : (fs[i]?).getD 0 ≤ 16777215 := by
      cases hf : fs[i]? with
      | none => simp
      | some x => exact (h x (List.mem_of_getElem? hf)).2
    omega
theorem msk24_ok {fs : List Int} (h : fs.length ≤ 10) : okP (msk24 fs) :=
  ⟨by simpa [msk24] using h, fun x hx => by have := msk24_at hx; omega, by have := newX_tot24 (fs := msk24 fs) (fun x hx => msk24_at hx) 10; omega⟩

set_option maxRecDepth 10000 in
theorem begin_weak (A : Option Addr) (cap : Nat) (fs : List Int) (w : World) (hA0 : ArgT w 1 intc A cap fs) (hn : fs.length ≤ 9223372036854775807) : Calls Tryz.prog 15 #[.slice A fs.length cap] w fun e w' => ∃ b v l F G xv yv, e = .returned (.pointer (some ⟨b, 0, none⟩)) ∧ Blk w' b [.pointer (some ⟨l, 0, none⟩), .pointer (some ⟨v, 0, none⟩), .pointer xv, .pointer yv, .int .i64 0] 35 ∧ VotT F w' v VS.zero ∧ Led G w' l (newX (msk24 (fs.take 10)) 10) [] ∧ Keep none_ w w' ∧ w.heap.size ≤ b ∧ (∀ q, F q → w.heap.size ≤ q ∧ q ≠ b) ∧ (∀ q, G q → w.heap.size ≤ q ∧ q ≠ b) ∧ (∀ q, F q → ¬ G q) := by
 have hA := hA0
 have hK0 : Keep none_ w w := Keep.refl _ _
 have hzhK0 := Keep.size hK0
 refine enterV Tryz.func15 rfl [.slice A fs.length cap] 58 rfl rfl rfl ?_
 refine V_pick [(0, .slice A fs.length cap)] rfl ?_
 refine V_seq ?_
 refine V_region ?_
 refine OI_static 1 [(0, .slice A fs.length cap)] (by kernel_rfl) ?_
 refine OI_end rfl ?_
 refine X_then ?_
 refine V_seq ?_
 refine V_region ?_
 refine OI_static 1 [(0, .slice A fs.length cap), (3, .slice none 0 0)] (by kernel_rfl) ?_
 refine OI_end rfl ?_
 refine X_then ?_
 refine V_seq ?_
 refine V_seq ?_
 refine V_region ?_
 refine OI_static 1 [(0, .slice A fs.length cap), (3, .slice none 0 0), (4, nt 0)] (by kernel_rfl) ?_
 refine OI_end rfl ?_
 refine X_then ?_
 refine V_block ?_
 refine V_pick [(0, .slice A fs.length cap), (3, .slice none 0 0), (4, nt 0)] rfl ?_
 refine V_loop (fun k wI e => ∃ i : Nat, ∃ A2 : Option Addr, ∃ cap2 : Nat, ∃ ms : List Int, (k + i = min fs.length 10) ∧ (ms = msk24 (fs.take i)) ∧ (SlT wI 1 intc A2 cap2 ms) ∧ (∀ q, inA A2 q → w.heap.size ≤ q) ∧ Keep none_ w wI ∧ e = [(0, .slice A fs.length cap), (3, .slice A2 ms.length cap2), (4, nt ((i : Nat) : Int))]) (min fs.length 10) ⟨0, none, 0, [], by omega, rfl, SlT.nil _ _ _, fun q h => (inA_none h).elim, Keep.refl _ _, rfl⟩ ?_
 rintro k2 w1 _ ⟨i, A2, cap2, ms, hki, hms, hA2, ow2, hk3, rfl⟩
 have hsz4 := Keep.size hk3
 replace hA := ArgT.keep0 hA hk3
 replace hK0 := Keep.tr hK0 (Keep.ofNone hk3)
 have hzhk3 := Keep.size hk3
 have lt2 := SlT.lt hA2
 have hml : ms.length = i := by rw [hms]; simp [msk24]; omega
 refine V_seq ?_
 refine V_seq ?_
 refine V_region ?_
 refine OI_static 5 [(0, .slice A fs.length cap), (3, .slice A2 ms.length cap2), (4, nt ((i : Nat) : Int)), (14, .bool (decide (((i : Nat) : Int) < ((fs.length : Nat) : Int))))] (by kernel_rfl) ?_
 by_cases hg5 : ((i : Nat) : Int) < ((fs.length : Nat) : Int)
 ·
  refine OI_eq [(0, .slice A fs.length cap), (3, .slice A2 ms.length cap2), (4, nt ((i : Nat) : Int)), (14, .bool true)] (by first | simp [hg5] | rfl) ?_
  refine OI_static 8 [(0, .slice A fs.length cap), (3, .slice A2 ms.length cap2), (4, nt ((i : Nat) : Int)), (15, nt ((i : Nat) : Int)), (16, .bool (decide (((i : Nat) : Int) < 10))), (17, .bool (decide (((i : Nat) : Int) < 10)))] (by kernel_rfl) ?_
  refine OI_end rfl ?_
  refine X_then ?_
  refine V_if (((i : Nat) : Int) < 10) (by kernel_rfl) (fun hc6 => ?_) (fun hc6 => ?_)
  ·
   refine V_skip ?_
   refine X_then ?_
   refine V_seq ?_
   refine V_block ?_
   refine V_region ?_
   refine OI_static 3 [(0, .slice A fs.length cap), (4, nt ((i : Nat) : Int)), (15, nt ((i : Nat) : Int)), (16, .bool (decide (((i : Nat) : Int) < 10))), (20, .slice A2 ms.length cap2), (21, .slice A fs.length cap), (22, nt ((i : Nat) : Int))] (by kernel_rfl) ?_
   obtain ⟨b7, o7, L7, rfl, hat7⟩ := ArgT.open_ hA (by first | omega | (simp only [List.length_map]; omega) | (simp; done) | (simp; omega))
   have hb7lt0 := ArgT.lt hA0 (by first | omega | (simp only [List.length_map]; omega) | (simp; done) | (simp; omega))
   have hb7lt := hat7.blk.lt
   refine OI_pure (some 23) (.indexAddr 28 (.tmp 21) (.tmp 22)) (by kernel_rfl) (pure_idxN (b := b7) (o := o7) (len := fs.length) (cap := cap) (kd := .i64) (j := i) (E := 3) (sz := 1) (by_ := 8) (by kernel_rfl) (by kernel_rfl) (by kernel_rfl) (by omega)) ?_
   obtain ⟨x8, hx9⟩ : ∃ x, fs[i]? = some x := ⟨_, List.getElem?_eq_getElem (by first | omega | (simp only [List.length_map]; omega))⟩
   refine OI_cellR 3 (.tmp 23) (o7 + i * 1) (nt x8) (some 24) (by kernel_rfl) (by kernel_rfl) hat7.blk (m := 1) (by kernel_rfl) (AtR.cell0 hat7 (es_at hx9) rfl) ?_
   refine OI_static 6 [(0, .slice (some ⟨b7, o7, none⟩) fs.length cap), (4, nt ((i : Nat) : Int)), (15, nt ((i : Nat) : Int)), (16, .bool (decide (((i : Nat) : Int) < 10))), (20, .slice A2 ms.length cap2), (25, nt (bAnd x8 16777215))] (by kernel_rfl) ?_
   refine OI_slit (E := 3) (zv := nt 0) (sz := 1) (by_ := 8) 28 1 #[(0, (Operand.tmp 25))] [nt (bAnd x8 16777215)] [nt (bAnd x8 16777215)] (some 26) (by kernel_rfl) (by kernel_rfl) (by kernel_rfl) (by omega) rfl (by omega) (by intro v hv; simp only [List.mem_cons, List.not_mem_nil, or_false] at hv; rcases hv with rfl <;> rfl) (by kernel_rfl) rfl ?_
   intro b10 w10 e10 hb10 k10 z10
   have hsz11 := Keep.size k10
   replace hat7 := hat7.keep k10 (fun f => f)
   replace hA2 := SlT.keep0 hA2 k10
   replace hK0 := Keep.tr hK0 (Keep.ofNone k10)
   replace hk3 := Keep.tr hk3 (Keep.ofNone k10)
   have hb10lt := hb10.lt
   refine OI_append (t := 28) (at2 := 28) (E := 3) (E2 := 3) (sz := 1) (by_ := 8) (zv := nt 0) (m := ms.length) (k := 1) (.tmp 20) (.tmp 26) (.slice A2 ms.length cap2) (.slice (some ⟨b10, 0, none⟩) 1 1) (some 27) (by kernel_rfl) (by kernel_rfl) (by kernel_rfl) (by kernel_rfl) (by kernel_rfl) (by kernel_rfl) (by kernel_rfl) (SlT.slr hA2) (slr_one hb10 (intc_len (bAnd x8 16777215))) (intc_one (bAnd x8 16777215)) (by first | omega | (simp only [List.length_nil]; omega)) (by omega) (by first | omega | (simp only [List.length_nil]; omega)) (by omega) ?_
   intro vv9 w12 hap
   obtain ⟨A12, cap12, rfl, hA12, hk12, own12x⟩ := app_one (f := intc) (xs := ms) (x := (bAnd x8 16777215)) (A := A2) (cap := cap2) hap (fun x _ => intc_len x) (intc_len _)
   have own12 : ∀ q, inA A12 q → w.heap.size ≤ q := fun q hq => by rcases own12x q hq with h | h; exact ow2 q h; (show w.heap.size ≤ q; omega)
   have hsz13 := Keep.size hk12
   replace hat7 := hat7.keep hk12 (fun hs => by have h1 := ow2 _ hs; have h2 := lt2 _ hs; omega)
   replace hK0 := Keep.fresh hK0 hk12 (by intro i hi hs; first | exact hs | (exfalso; have h1 := ow2 i hs; have h2 := lt2 i hs; omega) | (have h1 := ow2 i hs; have h2 := lt2 i hs; show _ ∨ _; omega))
   replace hk3 := Keep.fresh hk3 hk12 (by intro i hi hs; first | exact hs | (exfalso; have h1 := ow2 i hs; have h2 := lt2 i hs; omega) | (have h1 := ow2 i hs; have h2 := lt2 i hs; show _ ∨ _; omega))
   have lt12 := SlT.lt hA12
   refine OI_static 9 [(0, .slice (some ⟨b7, o7, none⟩) fs.length cap), (3, .slice A12 ((ms ++ [bAnd x8 16777215]).length) cap12), (4, nt ((i : Nat) : Int)), (15, nt ((i : Nat) : Int)), (16, .bool (decide (((i : Nat) : Int) < 10)))] (by kernel_rfl) ?_
   refine OI_end rfl ?_
   refine X_block ?_
   refine X_then ?_
   refine V_region ?_
   have hw14 : IntKind.i64.wrap (((i : Nat) : Int) + 1) = ((i + 1 : Nat) : Int) := (wrap64_id (by omega) (by omega)).trans (by omega)
   refine OI_static 2 [(0, .slice (some ⟨b7, o7, none⟩) fs.length cap), (3, .slice A12 ((ms ++ [bAnd x8 16777215]).length) cap12), (15, nt ((i : Nat) : Int)), (16, .bool (decide (((i : Nat) : Int) < 10))), (19, nt (IntKind.i64.wrap (((i : Nat) : Int) + 1)))] (by kernel_rfl) ?_
   refine OI_eq [(0, .slice (some ⟨b7, o7, none⟩) fs.length cap), (3, .slice A12 ((ms ++ [bAnd x8 16777215]).length) cap12), (15, nt ((i : Nat) : Int)), (16, .bool (decide (((i : Nat) : Int) < 10))), (19, nt ((i + 1 : Nat) : Int))] (by rw [hw14]) ?_
   refine OI_static 3 [(0, .slice (some ⟨b7, o7, none⟩) fs.length cap), (3, .slice A12 ((ms ++ [bAnd x8 16777215]).length) cap12), (4, nt ((i + 1 : Nat) : Int)), (15, nt ((i : Nat) : Int)), (16, .bool (decide (((i : Nat) : Int) < 10)))] (by kernel_rfl) ?_
   refine OI_end rfl ?_
   exact V_again (k2 - 1) (by omega) [(0, .slice (some ⟨b7, o7, none⟩) fs.length cap), (3, .slice A12 ((ms ++ [bAnd x8 16777215]).length) cap12), (4, nt ((i + 1 : Nat) : Int))] rfl ⟨i + 1, A12, cap12, ms ++ [bAnd x8 16777215], by omega, by rw [msk24_step hx9, ← hms], hA12, own12, hk3, rfl⟩
  ·
   refine V_exit ?_
   refine X_exit_then ?_
   refine X_exit_then ?_
   refine X_exit_here ?_
   refine X_then ?_
   refine V_seq ?_
   refine V_region ?_
   refine OI_static 1 [(3, .slice A2 ms.length cap2), (29, .slice A2 ms.length cap2)] (by kernel_rfl) ?_
   have hie : i = min fs.length 10 := by omega
   have htk : fs.take i = fs.take 10 := by rw [hie]; rcases Nat.le_total fs.length 10 with h9 | h9; (rw [Nat.min_eq_left h9, List.take_length, List.take_of_length_le h9]); rw [Nat.min_eq_right h9]
   rw [htk] at hms
   have hok9 := msk24_ok (fs := fs.take 10) (by rw [List.length_take]; omega)
   rw [← hms] at hok9
   refine OI_call { callee := (Callee.value (Operand.func 29)), args := #[(Operand.tmp 29)], argTypes := #[28] } 29 #[.slice A2 ms.length cap2] (some 30) (by kernel_rfl) (by kernel_rfl) (by kernel_rfl) (new_ok A2 cap2 ms _ (SlT.arg hA2) (by omega) hok9) ?_
   rintro _ w15 ⟨l17, F18, rfl, ho19, hk16, hge20⟩
   refine ⟨_, rfl, ?_⟩
   have hsz21 := Keep.size hk16
   replace hA := ArgT.keep0 hA hk16
   replace hA2 := SlT.keep0 hA2 hk16
   replace hK0 := Keep.tr hK0 (Keep.ofNone hk16)
   have own22 : ∀ q, F18 q → w1.heap.size ≤ q := fun q hq => by have h1 := hge20 q hq; omega
   have lt23 := Led.lt ho19
   have dis24 : ∀ q, F18 q → ¬ inA A2 q := fun q h1 h2 => by have h3 := hge20 q h1; have h4 := lt2 q h2; omega
   have hl17lt : l17 < w15.heap.size := Led.lt ho19 _ (Led.at_ ho19)
   have hl17ge := hge20 _ (Led.at_ ho19)
   refine OI_static 7 [(3, .slice A2 ms.length cap2), (5, pt l17), (6, nt 0)] (by kernel_rfl) ?_
   refine OI_end rfl ?_
   refine X_then ?_
   refine V_seq ?_
   refine V_region ?_
   refine OI_static 1 [(5, pt l17), (6, nt 0), (34, .slice A2 ms.length cap2)] (by kernel_rfl) ?_
   refine OI_call { callee := (Callee.value (Operand.func 41)), args := #[(Operand.tmp 34)], argTypes := #[28] } 41 #[.slice A2 ms.length cap2] (some 35) (by kernel_rfl) (by kernel_rfl) (by kernel_rfl) (rnew6_weak A2 cap2 ms _ (SlT.arg hA2) (by omega)) ?_
   rintro _ w25 ⟨pv27, n28, rfl, hk26⟩
   refine ⟨_, rfl, ?_⟩
   have hsz29 := Keep.size hk26
   replace hA := ArgT.keep0 hA hk26
   replace hA2 := SlT.keep0 hA2 hk26
   replace hK0 := Keep.tr hK0 (Keep.ofNone hk26)
   replace ho19 := Led.keep ho19 hk26 (fun _ _ f => f)
   refine OI_static 7 [(5, pt l17), (6, nt 0), (7, .pointer pv27)] (by kernel_rfl) ?_
   refine OI_end rfl ?_
   refine X_then ?_
   refine V_seq ?_
   refine V_region ?_
   refine OI_static 1 [(5, pt l17), (6, nt 0), (7, .pointer pv27), (38, pt l17)] (by kernel_rfl) ?_
   refine OI_call { callee := (Callee.value (Operand.func 42)), args := #[], argTypes := #[] } 42 #[] (some 39) (by kernel_rfl) (by kernel_rfl) (by kernel_rfl) (new_votT _) ?_
   rintro _ w32 ⟨g34, F35, rfl, ho36, hk33, hge37⟩
   refine ⟨_, rfl, ?_⟩
   have hsz38 := Keep.size hk33
   replace hA := ArgT.keep0 hA hk33
   replace hA2 := SlT.keep0 hA2 hk33
   replace hK0 := Keep.tr hK0 (Keep.ofNone hk33)
   replace ho19 := Led.keep ho19 hk33 (fun _ _ f => f)
   have own39 : ∀ q, F35 q → w25.heap.size ≤ q := fun q hq => by have h1 := hge37 q hq; omega
   have lt40 := VotT.lt ho36
   have dis41 : ∀ q, F35 q → ¬ inA A2 q := fun q h1 h2 => by have h3 := hge37 q h1; have h4 := lt2 q h2; omega
   have dis42 : ∀ q, F35 q → ¬ F18 q := fun q h1 h2 => by have h3 := hge37 q h1; have h4 := lt23 q h2; omega
   have hg34lt : g34 < w32.heap.size := VotT.lt ho36 _ (VotT.at_ ho36)
   have hg34ge := hge37 _ (VotT.at_ ho36)
   refine OI_static 3 [(5, pt l17), (6, nt 0), (38, pt l17), (39, pt g34), (40, .pointer pv27)] (by kernel_rfl) ?_
   refine OI_call { callee := (Callee.value (Operand.func 43)), args := #[], argTypes := #[] } 43 #[] (some 41) (by kernel_rfl) (by kernel_rfl) (by kernel_rfl) (rnew11_weak _) ?_
   rintro _ w43 ⟨pv45, rfl, hk44⟩
   refine ⟨_, rfl, ?_⟩
   have hsz46 := Keep.size hk44
   replace hA := ArgT.keep0 hA hk44
   replace hA2 := SlT.keep0 hA2 hk44
   replace hK0 := Keep.tr hK0 (Keep.ofNone hk44)
   replace ho19 := Led.keep ho19 hk44 (fun _ _ f => f)
   replace ho36 := VotT.keep ho36 hk44 (fun _ _ f => f)
   refine OI_static 5 [(5, pt l17), (6, nt 0), (42, .agg #[pt l17, pt g34, .pointer pv27, .pointer pv45, nt 0])] (by kernel_rfl) ?_
   refine OI_box 35 (.tmp 42) (.agg #[pt l17, pt g34, .pointer pv27, .pointer pv45, nt 0]) [pt l17, pt g34, .pointer pv27, .pointer pv45, nt 0] (some 43) (by kernel_rfl) (by kernel_rfl) (by kernel_rfl) ?_
   intro b47 w47 e47 hb47 k47 z47
   have hsz48 := Keep.size k47
   replace hA := ArgT.keep0 hA k47
   replace hA2 := SlT.keep0 hA2 k47
   replace hK0 := Keep.tr hK0 (Keep.ofNone k47)
   replace ho19 := Led.keep ho19 k47 (fun _ _ f => f)
   replace ho36 := VotT.keep ho36 k47 (fun _ _ f => f)
   have hb47lt := hb47.lt
   refine OI_static 7 [(5, pt l17), (6, nt 0), (9, pt b47)] (by kernel_rfl) ?_
   refine OI_end rfl ?_
   refine X_then ?_
   refine V_seq ?_
   refine V_seq ?_
   refine V_region ?_
   refine OI_static 10 [(9, pt b47), (50, .bool false), (53, .pointer (some ⟨b47, 1, none⟩))] (by kernel_rfl) ?_
   refine OI_cell 31 (.tmp 53) 1 (pt g34) (some 54) (by kernel_rfl) (by kernel_rfl) hb47 (m := 1) (by kernel_rfl) rfl ?_
   refine OI_static 13 [(9, pt b47), (56, .bool false)] (by kernel_rfl) ?_
   refine OI_end rfl ?_
   refine X_then ?_
   refine V_false rfl ?_
   refine V_skip ?_
   refine X_then ?_
   refine V_seq ?_
   refine V_region ?_
   refine OI_static 2 [(2, pt b47)] (by kernel_rfl) ?_
   refine OI_end rfl ?_
   refine X_then ?_
   refine V_ret ?_
   exact X_return _ rfl ⟨b47, g34, l17, F35, F18, pv27, pv45, rfl, hb47, ho36, by rw [hms] at ho19; exact ho19, hK0, by omega, fun q hq => ⟨by have h1 := own39 q hq; omega, by have h1 := lt40 q hq; omega⟩, fun q hq => ⟨by have h1 := own22 q hq; omega, by have h1 := lt23 q hq; omega⟩, dis42⟩
 ·
  refine OI_eq [(0, .slice A fs.length cap), (3, .slice A2 ms.length cap2), (4, nt ((i : Nat) : Int)), (14, .bool false)] (by first | simp [hg5] | rfl) ?_
  refine OI_static 8 [(0, .slice A fs.length cap), (3, .slice A2 ms.length cap2), (4, nt ((i : Nat) : Int)), (15, undef), (16, undef), (17, .bool false)] (by kernel_rfl) ?_
  refine OI_end rfl ?_
  refine X_then ?_
  refine V_false rfl ?_
  refine V_exit ?_
  refine X_exit_then ?_
  refine X_exit_then ?_
  refine X_exit_here ?_
  refine X_then ?_
  refine V_seq ?_
  refine V_region ?_
  refine OI_static 1 [(3, .slice A2 ms.length cap2), (29, .slice A2 ms.length cap2)] (by kernel_rfl) ?_
  have hie : i = min fs.length 10 := by omega
  have htk : fs.take i = fs.take 10 := by rw [hie]; rcases Nat.le_total fs.length 10 with h9 | h9; (rw [Nat.min_eq_left h9, List.take_length, List.take_of_length_le h9]); rw [Nat.min_eq_right h9]
  rw [htk] at hms
  have hok9 := msk24_ok (fs := fs.take 10) (by rw [List.length_take]; omega)
  rw [← hms] at hok9
  refine OI_call { callee := (Callee.value (Operand.func 29)), args := #[(Operand.tmp 29)], argTypes := #[28] } 29 #[.slice A2 ms.length cap2] (some 30) (by kernel_rfl) (by kernel_rfl) (by kernel_rfl) (new_ok A2 cap2 ms _ (SlT.arg hA2) (by omega) hok9) ?_
  rintro _ w49 ⟨l51, F52, rfl, ho53, hk50, hge54⟩
  refine ⟨_, rfl, ?_⟩
  have hsz55 := Keep.size hk50
  replace hA := ArgT.keep0 hA hk50
  replace hA2 := SlT.keep0 hA2 hk50
  replace hK0 := Keep.tr hK0 (Keep.ofNone hk50)
  have own56 : ∀ q, F52 q → w1.heap.size ≤ q := fun q hq => by have h1 := hge54 q hq; omega
  have lt57 := Led.lt ho53
  have dis58 : ∀ q, F52 q → ¬ inA A2 q := fun q h1 h2 => by have h3 := hge54 q h1; have h4 := lt2 q h2; omega
  have hl51lt : l51 < w49.heap.size := Led.lt ho53 _ (Led.at_ ho53)
  have hl51ge := hge54 _ (Led.at_ ho53)
  refine OI_static 7 [(3, .slice A2 ms.length cap2), (5, pt l51), (6, nt 0)] (by kernel_rfl) ?_
  refine OI_end rfl ?_
  refine X_then ?_
  refine V_seq ?_
  refine V_region ?_
  refine OI_static 1 [(5, pt l51), (6, nt 0), (34, .slice A2 ms.length cap2)] (by kernel_rfl) ?_
  refine OI_call { callee := (Callee.value (Operand.func 41)), args := #[(Operand.tmp 34)], argTypes := #[28] } 41 #[.slice A2 ms.length cap2] (some 35) (by kernel_rfl) (by kernel_rfl) (by kernel_rfl) (rnew6_weak A2 cap2 ms _ (SlT.arg hA2) (by omega)) ?_
  rintro _ w59 ⟨pv61, n62, rfl, hk60⟩
  refine ⟨_, rfl, ?_⟩
  have hsz63 := Keep.size hk60
  replace hA := ArgT.keep0 hA hk60
  replace hA2 := SlT.keep0 hA2 hk60
  replace hK0 := Keep.tr hK0 (Keep.ofNone hk60)
  replace ho53 := Led.keep ho53 hk60 (fun _ _ f => f)
  refine OI_static 7 [(5, pt l51), (6, nt 0), (7, .pointer pv61)] (by kernel_rfl) ?_
  refine OI_end rfl ?_
  refine X_then ?_
  refine V_seq ?_
  refine V_region ?_
  refine OI_static 1 [(5, pt l51), (6, nt 0), (7, .pointer pv61), (38, pt l51)] (by kernel_rfl) ?_
  refine OI_call { callee := (Callee.value (Operand.func 42)), args := #[], argTypes := #[] } 42 #[] (some 39) (by kernel_rfl) (by kernel_rfl) (by kernel_rfl) (new_votT _) ?_
  rintro _ w66 ⟨g68, F69, rfl, ho70, hk67, hge71⟩
  refine ⟨_, rfl, ?_⟩
  have hsz72 := Keep.size hk67
  replace hA := ArgT.keep0 hA hk67
  replace hA2 := SlT.keep0 hA2 hk67
  replace hK0 := Keep.tr hK0 (Keep.ofNone hk67)
  replace ho53 := Led.keep ho53 hk67 (fun _ _ f => f)
  have own73 : ∀ q, F69 q → w59.heap.size ≤ q := fun q hq => by have h1 := hge71 q hq; omega
  have lt74 := VotT.lt ho70
  have dis75 : ∀ q, F69 q → ¬ inA A2 q := fun q h1 h2 => by have h3 := hge71 q h1; have h4 := lt2 q h2; omega
  have dis76 : ∀ q, F69 q → ¬ F52 q := fun q h1 h2 => by have h3 := hge71 q h1; have h4 := lt57 q h2; omega
  have hg68lt : g68 < w66.heap.size := VotT.lt ho70 _ (VotT.at_ ho70)
  have hg68ge := hge71 _ (VotT.at_ ho70)
  refine OI_static 3 [(5, pt l51), (6, nt 0), (38, pt l51), (39, pt g68), (40, .pointer pv61)] (by kernel_rfl) ?_
  refine OI_call { callee := (Callee.value (Operand.func 43)), args := #[], argTypes := #[] } 43 #[] (some 41) (by kernel_rfl) (by kernel_rfl) (by kernel_rfl) (rnew11_weak _) ?_
  rintro _ w77 ⟨pv79, rfl, hk78⟩
  refine ⟨_, rfl, ?_⟩
  have hsz80 := Keep.size hk78
  replace hA := ArgT.keep0 hA hk78
  replace hA2 := SlT.keep0 hA2 hk78
  replace hK0 := Keep.tr hK0 (Keep.ofNone hk78)
  replace ho53 := Led.keep ho53 hk78 (fun _ _ f => f)
  replace ho70 := VotT.keep ho70 hk78 (fun _ _ f => f)
  refine OI_static 5 [(5, pt l51), (6, nt 0), (42, .agg #[pt l51, pt g68, .pointer pv61, .pointer pv79, nt 0])] (by kernel_rfl) ?_
  refine OI_box 35 (.tmp 42) (.agg #[pt l51, pt g68, .pointer pv61, .pointer pv79, nt 0]) [pt l51, pt g68, .pointer pv61, .pointer pv79, nt 0] (some 43) (by kernel_rfl) (by kernel_rfl) (by kernel_rfl) ?_
  intro b81 w81 e81 hb81 k81 z81
  have hsz82 := Keep.size k81
  replace hA := ArgT.keep0 hA k81
  replace hA2 := SlT.keep0 hA2 k81
  replace hK0 := Keep.tr hK0 (Keep.ofNone k81)
  replace ho53 := Led.keep ho53 k81 (fun _ _ f => f)
  replace ho70 := VotT.keep ho70 k81 (fun _ _ f => f)
  have hb81lt := hb81.lt
  refine OI_static 7 [(5, pt l51), (6, nt 0), (9, pt b81)] (by kernel_rfl) ?_
  refine OI_end rfl ?_
  refine X_then ?_
  refine V_seq ?_
  refine V_seq ?_
  refine V_region ?_
  refine OI_static 10 [(9, pt b81), (50, .bool false), (53, .pointer (some ⟨b81, 1, none⟩))] (by kernel_rfl) ?_
  refine OI_cell 31 (.tmp 53) 1 (pt g68) (some 54) (by kernel_rfl) (by kernel_rfl) hb81 (m := 1) (by kernel_rfl) rfl ?_
  refine OI_static 13 [(9, pt b81), (56, .bool false)] (by kernel_rfl) ?_
  refine OI_end rfl ?_
  refine X_then ?_
  refine V_false rfl ?_
  refine V_skip ?_
  refine X_then ?_
  refine V_seq ?_
  refine V_region ?_
  refine OI_static 2 [(2, pt b81)] (by kernel_rfl) ?_
  refine OI_end rfl ?_
  refine X_then ?_
  refine V_ret ?_
  exact X_return _ rfl ⟨b81, g68, l51, F69, F52, pv61, pv79, rfl, hb81, ho70, by rw [hms] at ho53; exact ho53, hK0, by omega, fun q hq => ⟨by have h1 := own73 q hq; omega, by have h1 := lt74 q hq; omega⟩, fun q hq => ⟨by have h1 := own56 q hq; omega, by have h1 := lt57 q hq; omega⟩, dis76⟩
end Go.Al


namespace Go.Al
open Go Go.RowKit Go.Proofs
/-! ### Locks, by accounts and ids -/
theorem getC_set (a b x : Int) : ∀ (cs : List Ci), Srt cs → ∀ a' b', getC a' b' (setC a b x cs) = if a' = a ∧ b' = b then some x else getC a' b' cs
  | [], _, a', b' => by
    simp only [setC, getC]
    by_cases h : a' = a ∧ b' = b
    · rw [if_pos ⟨h.1.symm, h.2.symm⟩, if_pos h]
    · rw [if_neg (fun e => h ⟨e.1.symm, e.2.symm⟩), if_neg h]
  | c :: l, hs, a', b' => by
    have hs2 := List.pairwise_cons.1 hs
    have ih := getC_set a b x l hs2.2 a' b'
    simp only [setC]
    split
    · rename_i he
      simp only [getC]
      by_cases h : a' = a ∧ b' = b
      · rw [if_pos ⟨h.1.symm, h.2.symm⟩, if_pos h]
      · rw [if_neg (fun e => h ⟨e.1.symm, e.2.symm⟩), if_neg h, if_neg (fun e => h ⟨by omega, by omega⟩)]
    · rename_i he
      split
      · simp only [getC]
        rw [ih]
        by_cases h : a' = a ∧ b' = b
        · rw [if_pos h, if_pos h, if_neg (fun e => he ⟨by omega, by omega⟩)]
        · rw [if_neg h, if_neg h]
      · simp only [getC]
        by_cases h : a' = a ∧ b' = b
        · rw [if_pos ⟨h.1.symm, h.2.symm⟩, if_pos h]
        · rw [if_neg (fun e => h ⟨e.1.symm, e.2.symm⟩), if_neg h]
def LkOk (cs : List Ci) : Prop := Srt cs ∧ ∀ c ∈ cs, 0 < c.v ∧ c.v ≤ 1073741824
theorem LkOk.nil : LkOk [] := ⟨Srt.nil, fun c hc => by cases hc⟩
theorem setC_mem3 {a b v : Int} {y : Ci} : ∀ {cs : List Ci}, y ∈ setC a b v cs → y = ⟨a, b, v⟩ ∨ y ∈ cs
  | [], h => by simp only [setC, List.mem_singleton] at h; exact .inl h
  | x :: l, h => by
    simp only [setC] at h
    split at h
    · rcases List.mem_cons.1 h with h | h
      · exact .inl h
      · exact .inr (List.mem_cons_of_mem _ h)
    · split at h
      · rcases List.mem_cons.1 h with rfl | h
        · exact .inr (List.mem_cons_self ..)
        · exact (setC_mem3 h).imp id (List.mem_cons_of_mem _)
      · rcases List.mem_cons.1 h with h | h
        · exact .inl h
        · exact .inr h
theorem delC_mem3 {a b : Int} {y : Ci} : ∀ {cs : List Ci}, y ∈ delC a b cs → y ∈ cs
  | [], h => by simp [delC] at h
  | x :: l, h => by
    simp only [delC] at h
    split at h
    · exact List.mem_cons_of_mem _ h
    · rcases List.mem_cons.1 h with rfl | h
      · exact List.mem_cons_self ..
      · exact List.mem_cons_of_mem _ (delC_mem3 h)
theorem LkOk.lock {cs : List Ci} (h : LkOk cs) (a t n : Int) : LkOk (lockC cs a t n) := by
  unfold lockC
  split
  · split
    · exact ⟨(h.1.del a t).1, fun c hc => h.2 c (delC_mem3 hc)⟩
    · refine ⟨(Srt.set h.1).1, fun c hc => ?_⟩
      rcases setC_mem3 hc with rfl | hc
      · simp only; omega
      · exact h.2 c hc
  · exact h
theorem LkOk.raise {cs : List Ci} (h : LkOk cs) (a t n : Int) : LkOk (raiseC cs a t n) := by
  unfold raiseC
  split
  · exact h
  · exact h.lock _ _ _
/-! ### What succeeds -/
end Go.Al


namespace Go.Al
open Go Go.RowKit Go.Proofs
/-! ### What is lent counts -/
def knX : List Acc := newX [0, 10, 10] 10
def knV : Vt := ⟨1, true, 2, 10, 0, 0⟩
def knS1 : VS := openS VS.zero 0 1
def knS2 : VS := delS knX knS1 2 1 1 1 10
def knC2 : List Ci := delC2 knX [] knS1 2 1 1 1 10
def knS3 : VS := voteS knX knS2 1 0 knV
def knC3 : List Ci := voteC knX knC2 knS2 1 0 knV
theorem kn1 : openE VS.zero 0 1 = 0 := by kernel_rfl
theorem kn2 : delE knX knS1 2 1 1 1 10 = 0 := by kernel_rfl
theorem kn3 : voteE knX knS2 1 0 knV = 0 := by kernel_rfl
theorem kn4 : tallyT knS3 0 = ⟨30, 0, 20⟩ := by kernel_rfl
theorem kn0 : newX (msk24 ([0, 10, 10].take 10)) 10 = knX := by kernel_rfl
theorem kn5 : knC2.length < 100000 := by rw [show knC2.length = 1 by kernel_rfl]; decide

set_option maxRecDepth 10000 in
theorem known_spec (w : World) : Calls Tryz.prog 22 #[] w fun e w' => e = .returned (.bool true) ∧ Keep none_ w w' := by
 have hK0 : Keep none_ w w := Keep.refl _ _
 have hzhK0 := Keep.size hK0
 refine enterV Tryz.func22 rfl [] 48 rfl rfl rfl ?_
 refine V_pick [] rfl ?_
 refine V_seq ?_
 refine V_region ?_
 refine OI_static 1 [] (by kernel_rfl) ?_
 refine OI_end rfl ?_
 refine X_then ?_
 refine V_seq ?_
 refine V_region ?_
 refine OI_slit (E := 3) (zv := nt 0) (sz := 1) (by_ := 8) 28 3 #[(0, (Operand.const (Value.int IntKind.i64 0))), (1, (Operand.const (Value.int IntKind.i64 10))), (2, (Operand.const (Value.int IntKind.i64 10)))] [nt 0, nt 10, nt 10] [nt 0, nt 10, nt 10] (some 5) (by kernel_rfl) (by kernel_rfl) (by kernel_rfl) (by omega) rfl (by omega) (by intro v hv; simp only [List.mem_cons, List.not_mem_nil, or_false] at hv; rcases hv with rfl | rfl | rfl <;> rfl) (by kernel_rfl) rfl ?_
 intro b1 w1 e1 hb1 k1 z1
 have hsz2 := Keep.size k1
 replace hK0 := Keep.tr hK0 (Keep.ofNone k1)
 have hb1lt := hb1.lt
 refine OI_call { callee := (Callee.value (Operand.func 15)), args := #[(Operand.tmp 5)], argTypes := #[28] } 15 #[.slice (some ⟨b1, 0, none⟩) 3 3] (some 6) (by kernel_rfl) (by kernel_rfl) (by kernel_rfl) (begin_weak (some ⟨b1, 0, none⟩) 3 [0, 10, 10] _ (slt_blk (xs := [0, 10, 10]) (f := intc) hb1 (fun _ => rfl) rfl).arg (by simp)) ?_
 rintro _ w5 ⟨b7, v8, l9, F10, G11, xv12, yv13, rfl, hb14, ho15, hl16, hk6, hge17, hF18, hG19, hd20⟩
 refine ⟨_, rfl, ?_⟩
 have hsz21 := Keep.size hk6
 replace hb1 := hb1.keep hk6 (fun f => f)
 replace hK0 := Keep.tr hK0 (Keep.ofNone hk6)
 have hb7lt := hb14.lt
 have own22 : ∀ q, F10 q → w1.heap.size ≤ q ∧ q ≠ b1 ∧ q ≠ b7 := fun q hq => by have h1 := hF18 q hq; omega
 have lt23 := VotT.lt ho15
 have hb7lt := hb14.lt
 have own24 : ∀ q, G11 q → w1.heap.size ≤ q ∧ q ≠ b1 ∧ q ≠ b7 := fun q hq => by have h1 := hG19 q hq; omega
 have lt25 := Led.lt hl16
 replace hl16 : Led G11 w5 l9 knX ([] : List Ci) := by rw [kn0] at hl16; exact hl16
 refine OI_static 3 [(1, pt b7)] (by kernel_rfl) ?_
 refine OI_end rfl ?_
 refine X_then ?_
 refine V_seq ?_
 refine V_seq ?_
 refine V_region ?_
 refine OI_static 2 [(1, pt b7), (8, .bool false)] (by kernel_rfl) ?_
 refine OI_end rfl ?_
 refine X_then ?_
 refine V_false rfl ?_
 refine V_skip ?_
 refine X_then ?_
 refine V_seq ?_
 refine V_region ?_
 refine OI_static 3 [(1, pt b7), (11, .pointer (some ⟨b7, 1, none⟩))] (by kernel_rfl) ?_
 refine OI_cell 31 (.tmp 11) 1 (pt v8) (some 12) (by kernel_rfl) (by kernel_rfl) hb14 (m := 1) (by kernel_rfl) rfl ?_
 refine OI_call { callee := (Callee.value (Operand.func 16)), args := #[(Operand.tmp 12), (Operand.const (Value.int IntKind.i64 0)), (Operand.const (Value.int IntKind.i64 1))], argTypes := #[31, 3, 3] } 16 #[pt v8, nt 0, nt 1] (some 13) (by kernel_rfl) (by kernel_rfl) (by kernel_rfl) (open_specT F10 v8 VS.zero 0 1 _ ho15) ?_
 rintro _ w28 ⟨rfl, ⟨F30, ho31, hfr32⟩, hk29⟩
 refine ⟨_, rfl, ?_⟩
 have hsz33 := Keep.size hk29
 replace hb14 := hb14.keep hk29 (fun hs => by have h1 := own22 _ hs; have h2 := lt23 _ hs; omega)
 replace hK0 := Keep.fresh hK0 hk29 (by intro i hi hs; first | exact hs | (exfalso; have h1 := own22 i hs; have h2 := lt23 i hs; omega) | (have h1 := own22 i hs; have h2 := lt23 i hs; show _ ∨ _; omega))
 replace hl16 := Led.keep hl16 hk29 (fun q hq hs => hd20 q hs hq)
 have own35 : ∀ q, F30 q → w1.heap.size ≤ q ∧ q ≠ b7 := fun q hq => by rcases hfr32 q hq with h | h; (have h1 := own22 q h; have h2 := lt23 q h; omega); omega
 have lt34 := VotT.lt ho31
 have dis36 : ∀ q, F30 q → ¬ G11 q := fun q h1 h2 => by rcases hfr32 q h1 with h | h; exact hd20 q h h2; (have h4 := lt25 q h2; omega)
 replace ho31 : VotT F30 w28 v8 knS1 := by rw [show openS VS.zero 0 1 = knS1 from rfl] at ho31; exact ho31
 refine OI_pick [(1, pt b7), (13, nt (openE VS.zero 0 1))] (by kernel_rfl) ?_
 refine OI_eq [(1, pt b7), (13, nt 0)] (by rw [kn1]) ?_
 refine OI_static 6 [(1, pt b7), (2, nt 0)] (by kernel_rfl) ?_
 refine OI_end rfl ?_
 refine X_then ?_
 refine V_seq ?_
 refine V_draws (acts [8]) none_ [[0, 1, 2, 3, 4, 5, 6, 7, 8, 9]] (by kernel_rfl) (by repeat first | exact sure_body (by rintro _ _ ⟨h, _⟩; exact ⟨_, h⟩) | refine sure_then ?_ | refine sure_block ?_ | refine sure_join ?_) (by kernel_rfl) ?_
 intro w38 hk37 he39 L hL40
 have hsz41 := Keep.size hk37
 replace hb14 := hb14.keep hk37 (fun f => f)
 replace hK0 := Keep.tr hK0 (Keep.ofNone hk37)
 replace hl16 := Led.keep hl16 hk37 (fun _ _ f => f)
 replace ho31 := VotT.keep ho31 hk37 (fun _ _ f => f)
 have qhb14 := hb14
 have K42 : Keep none_ w38 w38 := Keep.refl _ _
 obtain rfl := List.mem_singleton.1 hL40
 refine GI_static [3, 4, 5, 6, 7, 8, 9] [(1, pt b7), (2, nt 0), (16, .pointer (some ⟨b7, 1, none⟩))] (by kernel_rfl) ?_
 refine GI_cell 31 (.tmp 16) 1 (pt v8) (some 17) (by kernel_rfl) (by kernel_rfl) (by kernel_rfl) qhb14 (fun f => f) (m := 1) (by kernel_rfl) rfl ?_
 refine GI_static [7, 8, 9] [(1, pt b7), (2, nt 0), (17, pt v8), (20, pt b7)] (by kernel_rfl) ?_
 refine GI_cell 30 (.tmp 20) 0 (pt l9) (some 21) (by kernel_rfl) (by kernel_rfl) (by kernel_rfl) qhb14 (fun f => f) (m := 1) (by kernel_rfl) rfl ?_
 refine GI_call0 { callee := (Callee.value (Operand.func 17)), args := #[(Operand.tmp 17), (Operand.tmp 21), (Operand.const (Value.int IntKind.i64 2)), (Operand.const (Value.int IntKind.i64 1)), (Operand.const (Value.int IntKind.i64 1)), (Operand.const (Value.int IntKind.i64 1)), (Operand.const (Value.int IntKind.i64 10))], argTypes := #[31, 30, 3, 3, 3, 3, 3] } 17 #[pt v8, pt l9, nt 2, nt 1, nt 1, nt 1, nt 10] (some 22) (by kernel_rfl) (by kernel_rfl) (by kernel_rfl) (by kernel_rfl) (by kernel_rfl) (delegate_spec F30 G11 v8 l9 knS1 knX ([] : List Ci) 2 1 1 1 10 _ ho31 hl16 dis36 (by first | decide | exact kn5)) ?_
 rintro _ w45 ⟨rfl, ⟨F47, F50, ho48, ho51, hfr49, hfr52, hdis53⟩, hk46⟩
 refine ⟨_, rfl, ?_⟩
 have hsz54 := Keep.size hk46
 replace hb14 := hb14.keep hk46 (fun hs => by rcases hs with hs | hs; (have u0 := own35 _ hs; have u1 := lt34 _ hs; omega); (have u0 := own24 _ hs; have u1 := lt25 _ hs; omega))
 replace hK0 := Keep.fresh hK0 hk46 (by intro i hi hs; first | exact hs | (rcases hs with hs | hs; (have u0 := own35 i hs; have u1 := lt34 i hs; omega); (have u0 := own24 i hs; have u1 := lt25 i hs; omega)))
 have own56 : ∀ q, F47 q → w1.heap.size ≤ q ∧ q ≠ b7 := fun q hq => by rcases hfr49 q hq with h | h; (have h1 := own35 q h; have h2 := lt34 q h; omega); omega
 have lt55 := VotT.lt ho48
 have own58 : ∀ q, F50 q → w1.heap.size ≤ q ∧ q ≠ b7 := fun q hq => by rcases hfr52 q hq with h | h; (have h1 := own24 q h; have h2 := lt25 q h; omega); omega
 have lt57 := Led.lt ho51
 replace ho48 : VotT F47 w45 v8 knS2 := by rw [show delS knX knS1 2 1 1 1 10 = knS2 from rfl] at ho48; exact ho48
 replace ho51 : Led F50 w45 l9 knX knC2 := by rw [show delC2 knX ([] : List Ci) knS1 2 1 1 1 10 = knC2 from rfl] at ho51; exact ho51
 refine GI_pick [(1, pt b7), (2, nt 0), (22, nt (delE knX knS1 2 1 1 1 10))] (by kernel_rfl) ?_
 refine GI_eq [(1, pt b7), (2, nt 0), (22, nt 0)] (by rw [kn2]) ?_
 refine GI_static [] [(1, pt b7), (2, nt 0), (3, nt 0)] (by kernel_rfl) ?_
 refine GI_end ?_
 refine X_then ?_
 refine V_seq ?_
 refine V_draws (acts [9]) none_ [[0, 1, 2, 3, 4, 5, 6, 7, 8, 9, 10]] (by kernel_rfl) (by repeat first | exact sure_body (by rintro _ _ ⟨h, _⟩; exact ⟨_, h⟩) | refine sure_then ?_ | refine sure_block ?_ | refine sure_join ?_) (by kernel_rfl) ?_
 intro w60 hk59 he61 L hL62
 have hsz63 := Keep.size hk59
 replace hb14 := hb14.keep hk59 (fun f => f)
 replace hK0 := Keep.tr hK0 (Keep.ofNone hk59)
 replace ho48 := VotT.keep ho48 hk59 (fun _ _ f => f)
 replace ho51 := Led.keep ho51 hk59 (fun _ _ f => f)
 have qhb14 := hb14
 have K64 : Keep none_ w60 w60 := Keep.refl _ _
 obtain rfl := List.mem_singleton.1 hL62
 refine GI_static [3, 4, 5, 6, 7, 8, 9, 10] [(1, pt b7), (2, nt 0), (3, nt 0), (25, .pointer (some ⟨b7, 1, none⟩))] (by kernel_rfl) ?_
 refine GI_cell 31 (.tmp 25) 1 (pt v8) (some 26) (by kernel_rfl) (by kernel_rfl) (by kernel_rfl) qhb14 (fun f => f) (m := 1) (by kernel_rfl) rfl ?_
 refine GI_static [7, 8, 9, 10] [(1, pt b7), (2, nt 0), (3, nt 0), (26, pt v8), (29, pt b7)] (by kernel_rfl) ?_
 refine GI_cell 30 (.tmp 29) 0 (pt l9) (some 30) (by kernel_rfl) (by kernel_rfl) (by kernel_rfl) qhb14 (fun f => f) (m := 1) (by kernel_rfl) rfl ?_
 refine GI_static [9, 10] [(1, pt b7), (2, nt 0), (3, nt 0), (26, pt v8), (30, pt l9), (31, .agg #[nt 1, .bool true, nt 2, nt 10, nt 0, nt 0])] (by kernel_rfl) ?_
 refine GI_call0 { callee := (Callee.value (Operand.func 18)), args := #[(Operand.tmp 26), (Operand.tmp 30), (Operand.const (Value.int IntKind.i64 1)), (Operand.const (Value.int IntKind.i64 0)), (Operand.tmp 31)], argTypes := #[31, 30, 3, 3, 23] } 18 #[pt v8, pt l9, nt 1, nt 0, .agg #[nt 1, .bool true, nt 2, nt 10, nt 0, nt 0]] (some 32) (by kernel_rfl) (by kernel_rfl) (by kernel_rfl) (by kernel_rfl) (by kernel_rfl) (vote_spec F47 F50 v8 l9 knS2 knX knC2 1 0 (Vt.mk 1 true 2 10 0 0) _ ho48 ho51 hdis53 (by first | decide | exact kn5)) ?_
 rintro _ w67 ⟨rfl, ⟨F69, F72, ho70, ho73, hfr71, hfr74, hdis75⟩, hk68⟩
 refine ⟨_, rfl, ?_⟩
 have hsz76 := Keep.size hk68
 replace hb14 := hb14.keep hk68 (fun hs => by rcases hs with hs | hs; (have u0 := own56 _ hs; have u1 := lt55 _ hs; omega); (have u0 := own58 _ hs; have u1 := lt57 _ hs; omega))
 replace hK0 := Keep.fresh hK0 hk68 (by intro i hi hs; first | exact hs | (rcases hs with hs | hs; (have u0 := own56 i hs; have u1 := lt55 i hs; omega); (have u0 := own58 i hs; have u1 := lt57 i hs; omega)))
 have own78 : ∀ q, F69 q → w1.heap.size ≤ q ∧ q ≠ b7 := fun q hq => by rcases hfr71 q hq with h | h; (have h1 := own56 q h; have h2 := lt55 q h; omega); omega
 have lt77 := VotT.lt ho70
 have own80 : ∀ q, F72 q → w1.heap.size ≤ q ∧ q ≠ b7 := fun q hq => by rcases hfr74 q hq with h | h; (have h1 := own58 q h; have h2 := lt57 q h; omega); omega
 have lt79 := Led.lt ho73
 replace ho70 : VotT F69 w67 v8 knS3 := by rw [show voteS knX knS2 1 0 (Vt.mk 1 true 2 10 0 0) = knS3 from rfl] at ho70; exact ho70
 replace ho73 : Led F72 w67 l9 knX knC3 := by rw [show voteC knX knC2 knS2 1 0 (Vt.mk 1 true 2 10 0 0) = knC3 from rfl] at ho73; exact ho73
 refine GI_pick [(1, pt b7), (2, nt 0), (3, nt 0), (32, nt (voteE knX knS2 1 0 (Vt.mk 1 true 2 10 0 0)))] (by kernel_rfl) ?_
 refine GI_eq [(1, pt b7), (2, nt 0), (3, nt 0), (32, nt 0)] (by rw [show voteE knX knS2 1 0 (Vt.mk 1 true 2 10 0 0) = 0 from kn3]) ?_
 refine GI_static [] [(1, pt b7), (2, nt 0), (3, nt 0), (4, nt 0)] (by kernel_rfl) ?_
 refine GI_end ?_
 refine X_then ?_
 refine V_seq ?_
 refine V_region ?_
 refine OI_static 10 [(39, .bool true), (42, .pointer (some ⟨b7, 1, none⟩))] (by kernel_rfl) ?_
 refine OI_cell 31 (.tmp 42) 1 (pt v8) (some 43) (by kernel_rfl) (by kernel_rfl) hb14 (m := 1) (by kernel_rfl) rfl ?_
 refine OI_call { callee := (Callee.value (Operand.func 20)), args := #[(Operand.tmp 43), (Operand.const (Value.int IntKind.i64 0))], argTypes := #[31, 3] } 20 #[pt v8, nt 0] (some 44) (by kernel_rfl) (by kernel_rfl) (by kernel_rfl) (tally_spec F69 v8 knS3 0 _ (ho70).1) ?_
 rintro _ w81 ⟨rfl, hk82⟩
 refine ⟨_, rfl, ?_⟩
 have hsz83 := Keep.size hk82
 replace hK0 := Keep.tr hK0 (Keep.ofNone hk82)
 replace ho70 := VotT.keep ho70 hk82 (fun _ _ f => f)
 replace ho73 := Led.keep ho73 hk82 (fun _ _ f => f)
 refine OI_pick [(39, .bool true), (44, .agg (Tly.cells (tallyT knS3 0)).toArray)] (by kernel_rfl) ?_
 refine OI_eq [(39, .bool true), (44, .agg #[nt 30, nt 0, nt 20])] (by rw [kn4]; rfl) ?_
 refine OI_static 13 [(39, .bool true), (44, .agg #[nt 30, nt 0, nt 20]), (45, .agg #[nt 30, nt 0, nt 20])] (by kernel_rfl) ?_
 refine OI_pure (some 46) ((Op.binOp BinOp.eql 43 (Operand.tmp 44) (Operand.tmp 45) 43)) (by kernel_rfl) (pure_eql_same (xs := [nt 30, nt 0, nt 20]) (by kernel_rfl) (by kernel_rfl) (by kernel_rfl) (by kernel_rfl)) ?_
 refine OI_static 16 [(0, .bool true)] (by kernel_rfl) ?_
 refine OI_end rfl ?_
 refine X_then ?_
 refine V_ret ?_
 exact X_return (.bool true) rfl ⟨rfl, hK0⟩
end Go.Al


namespace Go.Al
open Go Go.RowKit Go.Proofs
/-! ### A vote that is cast anew -/
def ksV : List CK := [.int .i64, .bool, .int .i64, .int .i64, .int .i64, .int .i64]
theorem lift_vt (x : List Value) (h : Flat ksV x) : ∃ y : Vt, y.cells = x := by
  match x, h with
  | [], h => exact h.elim
  | [_], h => exact h.2.elim
  | [_, _], h => exact h.2.2.elim
  | [_, _, _], h => exact h.2.2.2.elim
  | [_, _, _, _], h => exact h.2.2.2.2.elim
  | [_, _, _, _, _], h => exact h.2.2.2.2.2.elim
  | [v1, v2, v3, v4, v5, v6], h =>
    obtain ⟨⟨n1, rfl, _⟩, ⟨n2, rfl⟩, ⟨n3, rfl, _⟩, ⟨n4, rfl, _⟩, ⟨n5, rfl, _⟩, ⟨n6, rfl, _⟩, _⟩ := h
    exact ⟨⟨n1, n2, n3, n4, n5, n6⟩, rfl⟩
  | _ :: _ :: _ :: _ :: _ :: _ :: _ :: _, h => exact h.2.2.2.2.2.2.elim
end Go.Al


namespace Go.Al
open Go Go.RowKit Go.Proofs
set_option maxRecDepth 10000 in
theorem vote_nil (lv : Value) (who ref : Int) (x : Vt) (w : World) : Calls Tryz.prog 18 #[.pointer none, lv, .int .i64 who, .int .i64 ref, .agg x.cells.toArray] w fun e w' => e = .returned (.int .i64 1) ∧ Keep none_ w w' := by
 have hK0 : Keep none_ w w := Keep.refl _ _
 have hzhK0 := Keep.size hK0
 refine enterV Tryz.func18 rfl [.pointer none, lv, nt who, nt ref, .agg (Vt.cells x).toArray] 133 rfl rfl rfl ?_
 refine V_pick [(0, .pointer none), (1, lv), (2, nt who), (3, nt ref), (4, .agg (Vt.cells x).toArray)] rfl ?_
 refine V_seq ?_
 refine V_region ?_
 refine OI_box 23 (.tmp 4) (.agg (Vt.cells x).toArray) (Vt.cells x) (some 9) (by kernel_rfl) (by kernel_rfl) rfl ?_
 intro b1 w1 e1 hb1 k1 z1
 have hsz2 := Keep.size k1
 replace hK0 := Keep.tr hK0 (Keep.ofNone k1)
 have hb1lt := hb1.lt
 refine OI_static 2 [(0, .pointer none), (1, lv), (2, nt who), (3, nt ref), (9, pt b1)] (by kernel_rfl) ?_
 refine OI_end rfl ?_
 refine X_then ?_
 refine V_seq ?_
 refine V_seq ?_
 refine V_region ?_
 refine OI_static 16 [(0, .pointer none), (1, lv), (2, nt who), (3, nt ref), (9, pt b1), (30, .bool true)] (by kernel_rfl) ?_
 refine OI_end rfl ?_
 refine X_then ?_
 refine V_true rfl ?_
 refine V_seq ?_
 refine V_region ?_
 refine OI_static 1 [(10, nt 1)] (by kernel_rfl) ?_
 refine OI_end rfl ?_
 refine X_then ?_
 refine V_ret ?_
 refine X_ret_then ?_
 exact X_return (nt 1) rfl ⟨rfl, hK0⟩

set_option maxRecDepth 10000 in
theorem unvote_nil (who ref now : Int) (w : World) : Calls Tryz.prog 25 #[.pointer none, .int .i64 who, .int .i64 ref, .int .i64 now] w fun e w' => e = .returned (.int .i64 1) ∧ Keep none_ w w' := by
 have hK0 : Keep none_ w w := Keep.refl _ _
 have hzhK0 := Keep.size hK0
 refine enterV Tryz.func25 rfl [.pointer none, nt who, nt ref, nt now] 91 rfl rfl rfl ?_
 refine V_pick [(0, .pointer none), (1, nt who), (2, nt ref), (3, nt now)] rfl ?_
 refine V_seq ?_
 refine V_region ?_
 refine OI_static 1 [(0, .pointer none), (1, nt who), (2, nt ref), (3, nt now)] (by kernel_rfl) ?_
 refine OI_end rfl ?_
 refine X_then ?_
 refine V_seq ?_
 refine V_seq ?_
 refine V_region ?_
 refine OI_static 7 [(0, .pointer none), (1, nt who), (2, nt ref), (3, nt now), (19, .bool true)] (by kernel_rfl) ?_
 refine OI_end rfl ?_
 refine X_then ?_
 refine V_true rfl ?_
 refine V_seq ?_
 refine V_region ?_
 refine OI_static 1 [(8, nt 1)] (by kernel_rfl) ?_
 refine OI_end rfl ?_
 refine X_then ?_
 refine V_ret ?_
 refine X_ret_then ?_
 exact X_return (nt 1) rfl ⟨rfl, hK0⟩

set_option maxRecDepth 10000 in
theorem delegate_nil (lv : Value) (who t to level n : Int) (w : World) : Calls Tryz.prog 17 #[.pointer none, lv, .int .i64 who, .int .i64 t, .int .i64 to, .int .i64 level, .int .i64 n] w fun e w' => e = .returned (.int .i64 1) ∧ Keep none_ w w' := by
 have hK0 : Keep none_ w w := Keep.refl _ _
 have hzhK0 := Keep.size hK0
 refine enterV Tryz.func17 rfl [.pointer none, lv, nt who, nt t, nt to, nt level, nt n] 96 rfl rfl rfl ?_
 refine V_pick [(0, .pointer none), (1, lv), (2, nt who), (3, nt t), (4, nt to), (5, nt level), (6, nt n)] rfl ?_
 refine V_seq ?_
 refine V_region ?_
 refine OI_static 1 [(0, .pointer none), (1, lv), (2, nt who), (3, nt t), (4, nt to), (5, nt level), (6, nt n)] (by kernel_rfl) ?_
 refine OI_end rfl ?_
 refine X_then ?_
 refine V_seq ?_
 refine V_seq ?_
 refine V_region ?_
 refine OI_static 36 [(0, .pointer none), (1, lv), (2, nt who), (3, nt t), (4, nt to), (5, nt level), (6, nt n), (51, .bool true)] (by kernel_rfl) ?_
 refine OI_end rfl ?_
 refine X_then ?_
 refine V_true rfl ?_
 refine V_seq ?_
 refine V_region ?_
 refine OI_static 1 [(14, nt 1)] (by kernel_rfl) ?_
 refine OI_end rfl ?_
 refine X_then ?_
 refine V_ret ?_
 refine X_ret_then ?_
 exact X_return (nt 1) rfl ⟨rfl, hK0⟩

set_option maxRecDepth 10000 in
theorem undelegate_nil (who t now : Int) (w : World) : Calls Tryz.prog 23 #[.pointer none, .int .i64 who, .int .i64 t, .int .i64 now] w fun e w' => e = .returned (.int .i64 1) ∧ Keep none_ w w' := by
 have hK0 : Keep none_ w w := Keep.refl _ _
 have hzhK0 := Keep.size hK0
 refine enterV Tryz.func23 rfl [.pointer none, nt who, nt t, nt now] 73 rfl rfl rfl ?_
 refine V_pick [(0, .pointer none), (1, nt who), (2, nt t), (3, nt now)] rfl ?_
 refine V_seq ?_
 refine V_region ?_
 refine OI_static 1 [(0, .pointer none), (1, nt who), (2, nt t), (3, nt now)] (by kernel_rfl) ?_
 refine OI_end rfl ?_
 refine X_then ?_
 refine V_seq ?_
 refine V_seq ?_
 refine V_region ?_
 refine OI_static 12 [(0, .pointer none), (1, nt who), (2, nt t), (3, nt now), (22, .bool true)] (by kernel_rfl) ?_
 refine OI_end rfl ?_
 refine X_then ?_
 refine V_true rfl ?_
 refine V_seq ?_
 refine V_region ?_
 refine OI_static 1 [(8, nt 1)] (by kernel_rfl) ?_
 refine OI_end rfl ?_
 refine X_then ?_
 refine V_ret ?_
 refine X_ret_then ?_
 exact X_return (nt 1) rfl ⟨rfl, hK0⟩

set_option maxRecDepth 10000 in
theorem unlock_nil (lv : Value) (who t now : Int) (w : World) : Calls Tryz.prog 28 #[.pointer none, lv, .int .i64 who, .int .i64 t, .int .i64 now] w fun e w' => e = .returned (.int .i64 1) ∧ Keep none_ w w' := by
 have hK0 : Keep none_ w w := Keep.refl _ _
 have hzhK0 := Keep.size hK0
 refine enterV Tryz.func28 rfl [.pointer none, lv, nt who, nt t, nt now] 80 rfl rfl rfl ?_
 refine V_pick [(0, .pointer none), (1, lv), (2, nt who), (3, nt t), (4, nt now)] rfl ?_
 refine V_seq ?_
 refine V_region ?_
 refine OI_static 1 [(0, .pointer none), (1, lv), (2, nt who), (3, nt t), (4, nt now), (10, nt 0)] (by kernel_rfl) ?_
 refine OI_end rfl ?_
 refine X_then ?_
 refine V_seq ?_
 refine V_seq ?_
 refine V_region ?_
 refine OI_static 16 [(0, .pointer none), (1, lv), (2, nt who), (3, nt t), (4, nt now), (10, nt 0), (30, .bool true)] (by kernel_rfl) ?_
 refine OI_end rfl ?_
 refine X_then ?_
 refine V_true rfl ?_
 refine V_seq ?_
 refine V_region ?_
 refine OI_static 1 [(10, nt 1)] (by kernel_rfl) ?_
 refine OI_end rfl ?_
 refine X_then ?_
 refine V_ret ?_
 refine X_ret_then ?_
 exact X_return (nt 1) rfl ⟨rfl, hK0⟩
end Go.Al


namespace Go.Al
open Go Go.RowKit Go.Proofs
set_option maxRecDepth 10000 in
theorem delegating_nil (a t : Int) (w : World) : Calls Tryz.prog 30 #[.pointer none, .int .i64 a, .int .i64 t] w fun e w' => e = .returned (.tuple #[.int .i64 0, .int .i64 0, .int .i64 0, .bool false]) ∧ Keep none_ w w' := by
 have hK0 : Keep none_ w w := Keep.refl _ _
 have hzhK0 := Keep.size hK0
 refine enterV Tryz.func30 rfl [.pointer none, nt a, nt t] 32 rfl rfl rfl ?_
 refine V_pick [(0, .pointer none), (1, nt a), (2, nt t)] rfl ?_
 refine V_seq ?_
 refine V_region ?_
 refine OI_static 4 [(0, .pointer none), (1, nt a), (2, nt t)] (by kernel_rfl) ?_
 refine OI_end rfl ?_
 refine X_then ?_
 refine V_seq ?_
 refine V_region ?_
 refine OI_static 3 [(11, .pointer none), (12, nt a), (13, nt t)] (by kernel_rfl) ?_
 refine OI_call { callee := (Callee.value (Operand.func 48)), args := #[(Operand.tmp 11), (Operand.tmp 12), (Operand.tmp 13)], argTypes := #[31, 3, 3] } 48 #[.pointer none, nt a, nt t] (some 14) (by kernel_rfl) (by kernel_rfl) (by kernel_rfl) (record_nil a t _) ?_
 rintro _ w1 ⟨q3, rfl, hgeq3, hq3, hk2⟩
 refine ⟨_, rfl, ?_⟩
 have hsz4 := Keep.size hk2
 replace hK0 := Keep.tr hK0 (Keep.ofNone hk2)
 have hq3lt := hq3.lt
 refine OI_static 6 [(16, pt q3)] (by kernel_rfl) ?_
 refine OI_cell 97 (.tmp 16) 0 (.pointer none) (some 17) (by kernel_rfl) (by kernel_rfl) hq3 (m := 1) (by kernel_rfl) rfl ?_
 refine OI_static 8 [(10, .pointer none)] (by kernel_rfl) ?_
 refine OI_end rfl ?_
 refine X_then ?_
 refine V_seq ?_
 refine V_seq ?_
 refine V_region ?_
 refine OI_static 2 [(10, .pointer none), (19, .bool true)] (by kernel_rfl) ?_
 refine OI_end rfl ?_
 refine X_then ?_
 refine V_true rfl ?_
 refine V_seq ?_
 refine V_region ?_
 refine OI_static 4 [(6, nt 0), (7, nt 0), (8, nt 0), (9, .bool false)] (by kernel_rfl) ?_
 refine OI_end rfl ?_
 refine X_then ?_
 refine V_ret ?_
 refine X_ret_then ?_
 exact X_return (.tuple #[nt 0, nt 0, nt 0, .bool false]) rfl ⟨rfl, hK0⟩

set_option maxRecDepth 10000 in
theorem got_nil (a t : Int) (w : World) : Calls Tryz.prog 27 #[.pointer none, .int .i64 a, .int .i64 t] w fun e w' => e = .returned (.agg (Wgt.cells ⟨0, 0⟩).toArray) ∧ Keep none_ w w' := by
 have hK0 : Keep none_ w w := Keep.refl _ _
 have hzhK0 := Keep.size hK0
 refine enterM Tryz.func27 rfl [.pointer none, nt a, nt t] 14 rfl rfl rfl ?_
 refine V_pick [(0, .pointer none), (1, nt a), (2, nt t)] rfl ?_
 refine V_seq ?_
 refine V_region ?_
 refine OI_alloc 54 (.agg #[nt 0, nt 0]) [nt 0, nt 0] (some 6) (by kernel_rfl) (by kernel_rfl) (by kernel_rfl) ?_
 intro b1 w1 e1 hb1 k1 z1
 have hsz2 := Keep.size k1
 replace hK0 := Keep.tr hK0 (Keep.ofNone k1)
 have hb1lt := hb1.lt
 refine OI_end rfl ?_
 refine X_then ?_
 refine V_seq ?_
 refine V_region ?_
 refine OI_static 3 [(6, pt b1), (7, .pointer none), (8, nt a), (9, nt t)] (by kernel_rfl) ?_
 refine OI_call { callee := (Callee.value (Operand.func 48)), args := #[(Operand.tmp 7), (Operand.tmp 8), (Operand.tmp 9)], argTypes := #[31, 3, 3] } 48 #[.pointer none, nt a, nt t] (some 10) (by kernel_rfl) (by kernel_rfl) (by kernel_rfl) (record_nil a t _) ?_
 rintro _ w3 ⟨q5, rfl, hgeq5, hq5, hk4⟩
 refine ⟨_, rfl, ?_⟩
 have hsz6 := Keep.size hk4
 replace hb1 := hb1.keep hk4 (fun f => f)
 replace hK0 := Keep.tr hK0 (Keep.ofNone hk4)
 have hq5lt := hq5.lt
 refine OI_static 6 [(6, pt b1), (12, .pointer (some ⟨q5, 1, none⟩))] (by kernel_rfl) ?_
 refine OI_agg 54 (.tmp 12) 1 [nt 0, nt 0] (some 13) (by kernel_rfl) (by kernel_rfl) hq5 (m := 2) (by kernel_rfl) rfl rfl ?_
 refine OI_set (m := 2) (kd := true) 54 (.tmp 6) (.tmp 13) 0 (.agg #[nt 0, nt 0]) [nt 0, nt 0] none (by kernel_rfl) (by kernel_rfl) (by kernel_rfl) hb1 (by kernel_rfl) (by kernel_rfl) (by kernel_rfl) (Nat.le_of_ble_eq_true (by kernel_rfl)) (by simp [Value.oneCell']) ?_
 intro w7 hb1_10 hk8 hz9
 replace hb1_10 : Blk w7 b1 [nt 0, nt 0] 54 := hb1_10
 have hsz11 := Keep.size hk8
 replace hq5 := hq5.keep hk8 (by show ¬ (_ = _); omega)
 replace hK0 := Keep.fresh hK0 hk8 (by intro i hi hs; first | exact hs | exact Or.inl hs | exact Or.inr hs | (exfalso; have hs2 : i = b1 := hs; omega))
 refine OI_end rfl ?_
 refine X_then ?_
 refine V_ret ?_
 exact leave0 (.agg [nt 0, nt 0].toArray) (.inl rfl) (res_agg1 (m := 2) rfl rfl (by kernel_rfl) hb1_10 rfl) ⟨rfl, hK0⟩

set_option maxRecDepth 10000 in
theorem prior_nil (a t : Int) (w : World) : Calls Tryz.prog 31 #[.pointer none, .int .i64 a, .int .i64 t] w fun e w' => e = .returned (.tuple #[.int .i64 0, .int .i64 0]) ∧ Keep none_ w w' := by
 have hK0 : Keep none_ w w := Keep.refl _ _
 have hzhK0 := Keep.size hK0
 refine enterV Tryz.func31 rfl [.pointer none, nt a, nt t] 21 rfl rfl rfl ?_
 refine V_pick [(0, .pointer none), (1, nt a), (2, nt t)] rfl ?_
 refine V_seq ?_
 refine V_region ?_
 refine OI_static 2 [(0, .pointer none), (1, nt a), (2, nt t)] (by kernel_rfl) ?_
 refine OI_end rfl ?_
 refine X_then ?_
 refine V_seq ?_
 refine V_region ?_
 refine OI_static 3 [(9, .pointer none), (10, nt a), (11, nt t)] (by kernel_rfl) ?_
 refine OI_call { callee := (Callee.value (Operand.func 48)), args := #[(Operand.tmp 9), (Operand.tmp 10), (Operand.tmp 11)], argTypes := #[31, 3, 3] } 48 #[.pointer none, nt a, nt t] (some 12) (by kernel_rfl) (by kernel_rfl) (by kernel_rfl) (record_nil a t _) ?_
 rintro _ w1 ⟨q3, rfl, hgeq3, hq3, hk2⟩
 refine ⟨_, rfl, ?_⟩
 have hsz4 := Keep.size hk2
 replace hK0 := Keep.tr hK0 (Keep.ofNone hk2)
 have hq3lt := hq3.lt
 refine OI_static 5 [(8, pt q3)] (by kernel_rfl) ?_
 refine OI_end rfl ?_
 refine X_then ?_
 refine V_seq ?_
 refine V_draws (acts []) none_ [[0, 1, 2, 3, 4, 5, 6, 7, 8, 9]] (by kernel_rfl) (by repeat first | exact sure_body (by rintro _ _ ⟨h, _⟩; exact ⟨_, h⟩) | refine sure_then ?_ | refine sure_block ?_ | refine sure_join ?_) (by kernel_rfl) ?_
 intro w6 hk5 he7 L hL8
 have hsz9 := Keep.size hk5
 replace hq3 := hq3.keep hk5 (fun f => f)
 replace hK0 := Keep.tr hK0 (Keep.ofNone hk5)
 have qhq3 := hq3
 have K10 : Keep none_ w6 w6 := Keep.refl _ _
 obtain rfl := List.mem_singleton.1 hL8
 refine GI_static [3, 4, 5, 6, 7, 8, 9] [(8, pt q3), (15, .pointer (some ⟨q3, 3, none⟩))] (by kernel_rfl) ?_
 refine GI_cell 3 (.tmp 15) 3 (nt 0) (some 16) (by kernel_rfl) (by kernel_rfl) (by kernel_rfl) qhq3 (fun f => f) (m := 1) (by kernel_rfl) rfl ?_
 refine GI_static [7, 8, 9] [(16, nt 0), (19, .pointer (some ⟨q3, 4, none⟩))] (by kernel_rfl) ?_
 refine GI_cell 3 (.tmp 19) 4 (nt 0) (some 20) (by kernel_rfl) (by kernel_rfl) (by kernel_rfl) qhq3 (fun f => f) (m := 1) (by kernel_rfl) rfl ?_
 refine GI_static [] [(6, nt 0), (7, nt 0)] (by kernel_rfl) ?_
 refine GI_end ?_
 refine X_then ?_
 refine V_ret ?_
 exact X_return (.tuple #[nt 0, nt 0]) rfl ⟨rfl, hK0⟩

end Go.Al


namespace Go.Al
open Go Go.RowKit Go.Proofs
/-! ### Acts -/
structure Av where
  k : Int
  who : Int
  ref : Int
  tr : Int
  st : Int
  to : Int
  lv : Int
  n : Int
  v : Vt
def Av.cells (x : Av) : List Value := .int .i64 x.k :: .int .i64 x.who :: .int .i64 x.ref :: .int .i64 x.tr :: .int .i64 x.st :: .int .i64 x.to :: .int .i64 x.lv :: .int .i64 x.n :: x.v.cells
theorem Av.len (x : Av) : x.cells.length = 14 := rfl
theorem Av.one (x : Av) : ∀ u ∈ x.cells, u.oneCell' = true := one_all' rfl
def ksA : List CK := [.int .i64, .int .i64, .int .i64, .int .i64, .int .i64, .int .i64, .int .i64, .int .i64] ++ ksV
theorem lift_av (x : List Value) (h : Flat ksA x) : ∃ y : Av, y.cells = x := by
  match x, h with
  | [], h => exact h.elim
  | [_], h => exact h.2.elim
  | [_, _], h => exact h.2.2.elim
  | [_, _, _], h => exact h.2.2.2.elim
  | [_, _, _, _], h => exact h.2.2.2.2.elim
  | [_, _, _, _, _], h => exact h.2.2.2.2.2.elim
  | [_, _, _, _, _, _], h => exact h.2.2.2.2.2.2.elim
  | [_, _, _, _, _, _, _], h => exact h.2.2.2.2.2.2.2.elim
  | v1 :: v2 :: v3 :: v4 :: v5 :: v6 :: v7 :: v8 :: l, h =>
    obtain ⟨⟨n1, rfl, _⟩, ⟨n2, rfl, _⟩, ⟨n3, rfl, _⟩, ⟨n4, rfl, _⟩, ⟨n5, rfl, _⟩, ⟨n6, rfl, _⟩, ⟨n7, rfl, _⟩, ⟨n8, rfl, _⟩, hl⟩ := h
    obtain ⟨v, rfl⟩ := lift_vt l hl
    exact ⟨⟨n1, n2, n3, n4, n5, n6, n7, n8, v⟩, rfl⟩

theorem on7 {i : Nat} (h : i < 7) : ([nt 1, nt 1, nt 1, nt 1, nt 1, nt 1, nt 1] : List Value)[0 + i * 1]? = some (nt 1) := by
  match i, h with
  | 0, _ => rfl
  | 1, _ => rfl
  | 2, _ => rfl
  | 3, _ => rfl
  | 4, _ => rfl
  | 5, _ => rfl
  | 6, _ => rfl
theorem ok5 : okP [5] := ⟨by decide, by decide, by decide⟩

set_option maxRecDepth 10000 in
set_option maxHeartbeats 1000000 in
theorem walk_VotingOfNothing (z : Av) (w : World) : Calls Tryz.prog 7 #[.agg z.cells.toArray] w fun e w' => e = .returned (.bool true) ∧ Keep none_ w w' := by
 have hK0 : Keep none_ w w := Keep.refl _ _
 have hzhK0 := Keep.size hK0
 refine enterV Tryz.func7 rfl [.agg (Av.cells z).toArray] 149 rfl rfl rfl ?_
 refine V_pick [(0, .agg (Av.cells z).toArray)] rfl ?_
 refine V_seq ?_
 refine V_region ?_
 refine OI_box 60 (.tmp 0) (.agg (Av.cells z).toArray) (Av.cells z) (some 1) (by kernel_rfl) (by kernel_rfl) rfl ?_
 intro b1 w1 e1 hb1 k1 z1
 have hsz2 := Keep.size k1
 replace hK0 := Keep.tr hK0 (Keep.ofNone k1)
 have hb1lt := hb1.lt
 refine OI_static 2 [(1, pt b1)] (by kernel_rfl) ?_
 refine OI_end rfl ?_
 refine X_then ?_
 refine V_seq ?_
 refine V_region ?_
 refine OI_static 1 [(1, pt b1), (3, .pointer none)] (by kernel_rfl) ?_
 refine OI_end rfl ?_
 refine X_then ?_
 refine V_seq ?_
 refine V_region ?_
 refine OI_slit (E := 3) (zv := nt 0) (sz := 1) (by_ := 8) 28 1 #[(0, (Operand.const (Value.int IntKind.i64 5)))] [nt 5] [nt 5] (some 17) (by kernel_rfl) (by kernel_rfl) (by kernel_rfl) (by omega) rfl (by omega) (by intro v hv; simp only [List.mem_cons, List.not_mem_nil, or_false] at hv; rcases hv with rfl <;> rfl) (by kernel_rfl) rfl ?_
 intro b3 w3 e3 hb3 k3 z3
 have hsz4 := Keep.size k3
 replace hb1 := hb1.keep k3 (fun f => f)
 replace hK0 := Keep.tr hK0 (Keep.ofNone k3)
 have hb3lt := hb3.lt
 refine OI_call { callee := (Callee.value (Operand.func 29)), args := #[(Operand.tmp 17)], argTypes := #[28] } 29 #[.slice (some ⟨b3, 0, none⟩) 1 1] (some 18) (by kernel_rfl) (by kernel_rfl) (by kernel_rfl) (new_ok (some ⟨b3, 0, none⟩) 1 [5] _ (slt_blk (xs := [5]) (f := intc) hb3 (fun _ => rfl) rfl).arg (by decide) ok5) ?_
 rintro _ w5 ⟨l7, F8, rfl, ho9, hk6, hge10⟩
 refine ⟨_, rfl, ?_⟩
 have hsz11 := Keep.size hk6
 replace hb1 := hb1.keep hk6 (fun f => f)
 replace hb3 := hb3.keep hk6 (fun f => f)
 replace hK0 := Keep.tr hK0 (Keep.ofNone hk6)
 have own12 : ∀ q, F8 q → w3.heap.size ≤ q ∧ q ≠ b1 ∧ q ≠ b3 := fun q hq => by have h1 := hge10 q hq; omega
 have lt13 := Led.lt ho9
 have hl7lt : l7 < w5.heap.size := Led.lt ho9 _ (Led.at_ ho9)
 refine OI_static 7 [(1, pt b1), (3, .pointer none), (4, pt l7)] (by kernel_rfl) ?_
 refine OI_end rfl ?_
 refine X_then ?_
 refine V_seq ?_
 refine V_region ?_
 refine OI_static 2 [(1, pt b1), (3, .pointer none), (4, pt l7), (22, .pointer none), (23, .pointer (some ⟨b1, 1, none⟩))] (by kernel_rfl) ?_
 refine OI_cell 3 (.tmp 23) 1 (nt z.who) (some 24) (by kernel_rfl) (by kernel_rfl) hb1 (m := 1) (by kernel_rfl) rfl ?_
 refine OI_static 4 [(1, pt b1), (3, .pointer none), (4, pt l7), (22, .pointer none), (24, nt z.who), (25, .pointer (some ⟨b1, 3, none⟩))] (by kernel_rfl) ?_
 refine OI_cell 3 (.tmp 25) 3 (nt z.tr) (some 26) (by kernel_rfl) (by kernel_rfl) hb1 (m := 1) (by kernel_rfl) rfl ?_
 refine OI_call { callee := (Callee.value (Operand.func 30)), args := #[(Operand.tmp 22), (Operand.tmp 24), (Operand.tmp 26)], argTypes := #[31, 3, 3] } 30 #[.pointer none, nt z.who, nt z.tr] (some 27) (by kernel_rfl) (by kernel_rfl) (by kernel_rfl) (delegating_nil z.who z.tr _) ?_
 rintro _ w14 ⟨rfl, hk15⟩
 refine ⟨_, rfl, ?_⟩
 have hsz16 := Keep.size hk15
 replace hb1 := hb1.keep hk15 (fun f => f)
 replace hK0 := Keep.tr hK0 (Keep.ofNone hk15)
 replace ho9 := Led.keep ho9 hk15 (fun _ _ f => f)
 refine OI_static 15 [(1, pt b1), (3, .pointer none), (4, pt l7), (8, nt 0), (9, .bool false)] (by kernel_rfl) ?_
 refine OI_end rfl ?_
 refine X_then ?_
 refine V_seq ?_
 refine V_region ?_
 refine OI_static 2 [(1, pt b1), (3, .pointer none), (4, pt l7), (8, nt 0), (9, .bool false), (33, .pointer none), (34, .pointer (some ⟨b1, 1, none⟩))] (by kernel_rfl) ?_
 refine OI_cell 3 (.tmp 34) 1 (nt z.who) (some 35) (by kernel_rfl) (by kernel_rfl) hb1 (m := 1) (by kernel_rfl) rfl ?_
 refine OI_static 4 [(1, pt b1), (3, .pointer none), (4, pt l7), (8, nt 0), (9, .bool false), (33, .pointer none), (35, nt z.who), (36, .pointer (some ⟨b1, 3, none⟩))] (by kernel_rfl) ?_
 refine OI_cell 3 (.tmp 36) 3 (nt z.tr) (some 37) (by kernel_rfl) (by kernel_rfl) hb1 (m := 1) (by kernel_rfl) rfl ?_
 refine OI_call { callee := (Callee.value (Operand.func 31)), args := #[(Operand.tmp 33), (Operand.tmp 35), (Operand.tmp 37)], argTypes := #[31, 3, 3] } 31 #[.pointer none, nt z.who, nt z.tr] (some 38) (by kernel_rfl) (by kernel_rfl) (by kernel_rfl) (prior_nil z.who z.tr _) ?_
 rintro _ w17 ⟨rfl, hk18⟩
 refine ⟨_, rfl, ?_⟩
 have hsz19 := Keep.size hk18
 replace hb1 := hb1.keep hk18 (fun f => f)
 replace hK0 := Keep.tr hK0 (Keep.ofNone hk18)
 replace ho9 := Led.keep ho9 hk18 (fun _ _ f => f)
 refine OI_static 11 [(1, pt b1), (3, .pointer none), (4, pt l7), (8, nt 0), (9, .bool false), (10, nt 0), (11, nt 0)] (by kernel_rfl) ?_
 refine OI_end rfl ?_
 refine X_then ?_
 refine V_seq ?_
 refine V_region ?_
 refine OI_static 2 [(1, pt b1), (3, .pointer none), (4, pt l7), (8, nt 0), (9, .bool false), (10, nt 0), (11, nt 0), (42, .pointer none), (43, .pointer (some ⟨b1, 1, none⟩))] (by kernel_rfl) ?_
 refine OI_cell 3 (.tmp 43) 1 (nt z.who) (some 44) (by kernel_rfl) (by kernel_rfl) hb1 (m := 1) (by kernel_rfl) rfl ?_
 refine OI_static 4 [(1, pt b1), (3, .pointer none), (4, pt l7), (8, nt 0), (9, .bool false), (10, nt 0), (11, nt 0), (42, .pointer none), (44, nt z.who), (45, .pointer (some ⟨b1, 3, none⟩))] (by kernel_rfl) ?_
 refine OI_cell 3 (.tmp 45) 3 (nt z.tr) (some 46) (by kernel_rfl) (by kernel_rfl) hb1 (m := 1) (by kernel_rfl) rfl ?_
 refine OI_call { callee := (Callee.value (Operand.func 19)), args := #[(Operand.tmp 42), (Operand.tmp 44), (Operand.tmp 46)], argTypes := #[31, 3, 3] } 19 #[.pointer none, nt z.who, nt z.tr] (some 47) (by kernel_rfl) (by kernel_rfl) (by kernel_rfl) (casts_nil z.who z.tr _) ?_
 rintro _ w20 ⟨rfl, hk21⟩
 refine ⟨_, rfl, ?_⟩
 have hsz22 := Keep.size hk21
 replace hb1 := hb1.keep hk21 (fun f => f)
 replace hK0 := Keep.tr hK0 (Keep.ofNone hk21)
 replace ho9 := Led.keep ho9 hk21 (fun _ _ f => f)
 refine OI_static 11 [(1, pt b1), (3, .pointer none), (4, pt l7), (8, nt 0), (9, .bool false), (10, nt 0), (11, nt 0), (12, .slice none 0 0)] (by kernel_rfl) ?_
 refine OI_end rfl ?_
 refine X_then ?_
 refine V_seq ?_
 refine V_draws (acts [5, 11, 20, 26, 39, 45, 52, 53]) none_ [[0, 1, 2, 3, 4, 5, 6, 7, 8, 9, 10, 11, 12, 13, 14, 15, 16, 17, 18, 19, 20, 21, 22, 23, 24, 25, 26, 27, 28, 29, 30, 31, 32, 33, 34, 35, 36, 37, 38, 39, 40, 41, 42, 43, 44, 45, 46, 47, 48, 49, 50, 51, 52, 53, 54]] (by kernel_rfl) (by repeat first | exact sure_body (by rintro _ _ ⟨h, _⟩; exact ⟨_, h⟩) | refine sure_then ?_ | refine sure_block ?_ | refine sure_join ?_) (by kernel_rfl) ?_
 intro w24 hk23 he25 L hL26
 have hsz27 := Keep.size hk23
 replace hb1 := hb1.keep hk23 (fun f => f)
 replace hK0 := Keep.tr hK0 (Keep.ofNone hk23)
 replace ho9 := Led.keep ho9 hk23 (fun _ _ f => f)
 have qhb1 := hb1
 have K28 : Keep none_ w24 w24 := Keep.refl _ _
 obtain rfl := List.mem_singleton.1 hL26
 refine GI_static [2, 3, 4, 5, 6, 7, 8, 9, 10, 11, 12, 13, 14, 15, 16, 17, 18, 19, 20, 21, 22, 23, 24, 25, 26, 27, 28, 29, 30, 31, 32, 33, 34, 35, 36, 37, 38, 39, 40, 41, 42, 43, 44, 45, 46, 47, 48, 49, 50, 51, 52, 53, 54] [(1, pt b1), (3, .pointer none), (4, pt l7), (8, nt 0), (9, .bool false), (10, nt 0), (11, nt 0), (12, .slice none 0 0), (50, .pointer none), (51, .pointer (some ⟨b1, 2, none⟩))] (by kernel_rfl) ?_
 refine GI_cell 3 (.tmp 51) 2 (nt z.ref) (some 52) (by kernel_rfl) (by kernel_rfl) (by kernel_rfl) qhb1 (fun f => f) (m := 1) (by kernel_rfl) rfl ?_
 refine GI_static [4, 5, 6, 7, 8, 9, 10, 11, 12, 13, 14, 15, 16, 17, 18, 19, 20, 21, 22, 23, 24, 25, 26, 27, 28, 29, 30, 31, 32, 33, 34, 35, 36, 37, 38, 39, 40, 41, 42, 43, 44, 45, 46, 47, 48, 49, 50, 51, 52, 53, 54] [(1, pt b1), (3, .pointer none), (4, pt l7), (8, nt 0), (9, .bool false), (10, nt 0), (11, nt 0), (12, .slice none 0 0), (50, .pointer none), (52, nt z.ref), (53, .pointer (some ⟨b1, 3, none⟩))] (by kernel_rfl) ?_
 refine GI_cell 3 (.tmp 53) 3 (nt z.tr) (some 54) (by kernel_rfl) (by kernel_rfl) (by kernel_rfl) qhb1 (fun f => f) (m := 1) (by kernel_rfl) rfl ?_
 refine GI_call { callee := (Callee.value (Operand.func 16)), args := #[(Operand.tmp 50), (Operand.tmp 52), (Operand.tmp 54)], argTypes := #[31, 3, 3] } 16 #[.pointer none, nt z.ref, nt z.tr] (some 55) (by kernel_rfl) (by kernel_rfl) (by kernel_rfl) (by kernel_rfl) (open_nil z.ref z.tr _) ?_
 rintro _ w29 ⟨rfl, hk30⟩
 have K31 := K28.tr (Keep.ofNone hk30)
 refine ⟨_, rfl, K31, ?_⟩
 have hzK31 := Keep.size K31
 have hsz32 := Keep.size hk30
 replace hb1 := hb1.keep hk30 (fun f => f)
 replace hK0 := Keep.tr hK0 (Keep.ofNone hk30)
 replace ho9 := Led.keep ho9 hk30 (fun _ _ f => f)
 refine GI_static [8, 9, 10, 11, 12, 13, 14, 15, 16, 17, 18, 19, 20, 21, 22, 23, 24, 25, 26, 27, 28, 29, 30, 31, 32, 33, 34, 35, 36, 37, 38, 39, 40, 41, 42, 43, 44, 45, 46, 47, 48, 49, 50, 51, 52, 53, 54] [(1, pt b1), (3, .pointer none), (4, pt l7), (8, nt 0), (9, .bool false), (10, nt 0), (11, nt 0), (12, .slice none 0 0), (55, nt 1), (56, .pointer none), (57, .pointer (some ⟨b1, 2, none⟩))] (by kernel_rfl) ?_
 refine GI_cell 3 (.tmp 57) 2 (nt z.ref) (some 58) (by kernel_rfl) (by kernel_rfl) (by kernel_rfl) qhb1 (fun f => f) (m := 1) (by kernel_rfl) rfl ?_
 refine GI_static [10, 11, 12, 13, 14, 15, 16, 17, 18, 19, 20, 21, 22, 23, 24, 25, 26, 27, 28, 29, 30, 31, 32, 33, 34, 35, 36, 37, 38, 39, 40, 41, 42, 43, 44, 45, 46, 47, 48, 49, 50, 51, 52, 53, 54] [(1, pt b1), (3, .pointer none), (4, pt l7), (8, nt 0), (9, .bool false), (10, nt 0), (11, nt 0), (12, .slice none 0 0), (55, nt 1), (56, .pointer none), (58, nt z.ref), (59, .pointer (some ⟨b1, 4, none⟩))] (by kernel_rfl) ?_
 refine GI_cell 3 (.tmp 59) 4 (nt z.st) (some 60) (by kernel_rfl) (by kernel_rfl) (by kernel_rfl) qhb1 (fun f => f) (m := 1) (by kernel_rfl) rfl ?_
 refine GI_call { callee := (Callee.value (Operand.func 32)), args := #[(Operand.tmp 56), (Operand.tmp 58), (Operand.tmp 60), (Operand.const (Value.int IntKind.i64 0))], argTypes := #[31, 3, 3, 3] } 32 #[.pointer none, nt z.ref, nt z.st, nt 0] (some 61) (by kernel_rfl) (by kernel_rfl) (by kernel_rfl) (by kernel_rfl) (close_nil z.ref z.st 0 _) ?_
 rintro _ w33 ⟨rfl, hk34⟩
 have K35 := K31.tr (Keep.ofNone hk34)
 refine ⟨_, rfl, K35, ?_⟩
 have hzK35 := Keep.size K35
 have hsz36 := Keep.size hk34
 replace hb1 := hb1.keep hk34 (fun f => f)
 replace hK0 := Keep.tr hK0 (Keep.ofNone hk34)
 replace ho9 := Led.keep ho9 hk34 (fun _ _ f => f)
 refine GI_static [15, 16, 17, 18, 19, 20, 21, 22, 23, 24, 25, 26, 27, 28, 29, 30, 31, 32, 33, 34, 35, 36, 37, 38, 39, 40, 41, 42, 43, 44, 45, 46, 47, 48, 49, 50, 51, 52, 53, 54] [(1, pt b1), (3, .pointer none), (4, pt l7), (8, nt 0), (9, .bool false), (10, nt 0), (11, nt 0), (12, .slice none 0 0), (55, nt 1), (61, nt 1), (62, .pointer none), (63, pt l7), (64, .pointer (some ⟨b1, 1, none⟩))] (by kernel_rfl) ?_
 refine GI_cell 3 (.tmp 64) 1 (nt z.who) (some 65) (by kernel_rfl) (by kernel_rfl) (by kernel_rfl) qhb1 (fun f => f) (m := 1) (by kernel_rfl) rfl ?_
 refine GI_static [17, 18, 19, 20, 21, 22, 23, 24, 25, 26, 27, 28, 29, 30, 31, 32, 33, 34, 35, 36, 37, 38, 39, 40, 41, 42, 43, 44, 45, 46, 47, 48, 49, 50, 51, 52, 53, 54] [(1, pt b1), (3, .pointer none), (4, pt l7), (8, nt 0), (9, .bool false), (10, nt 0), (11, nt 0), (12, .slice none 0 0), (55, nt 1), (61, nt 1), (62, .pointer none), (63, pt l7), (65, nt z.who), (66, .pointer (some ⟨b1, 2, none⟩))] (by kernel_rfl) ?_
 refine GI_cell 3 (.tmp 66) 2 (nt z.ref) (some 67) (by kernel_rfl) (by kernel_rfl) (by kernel_rfl) qhb1 (fun f => f) (m := 1) (by kernel_rfl) rfl ?_
 refine GI_static [19, 20, 21, 22, 23, 24, 25, 26, 27, 28, 29, 30, 31, 32, 33, 34, 35, 36, 37, 38, 39, 40, 41, 42, 43, 44, 45, 46, 47, 48, 49, 50, 51, 52, 53, 54] [(1, pt b1), (3, .pointer none), (4, pt l7), (8, nt 0), (9, .bool false), (10, nt 0), (11, nt 0), (12, .slice none 0 0), (55, nt 1), (61, nt 1), (62, .pointer none), (63, pt l7), (65, nt z.who), (67, nt z.ref), (68, .pointer (some ⟨b1, 8, none⟩))] (by kernel_rfl) ?_
 refine GI_agg 23 (.tmp 68) 8 [nt z.v.kind, .bool z.v.aye, nt z.v.level, nt z.v.a, nt z.v.n, nt z.v.s] (some 69) (by kernel_rfl) (by kernel_rfl) (by kernel_rfl) qhb1 (fun f => f) (m := 6) (by kernel_rfl) rfl rfl ?_
 refine GI_call { callee := (Callee.value (Operand.func 18)), args := #[(Operand.tmp 62), (Operand.tmp 63), (Operand.tmp 65), (Operand.tmp 67), (Operand.tmp 69)], argTypes := #[31, 30, 3, 3, 23] } 18 #[.pointer none, pt l7, nt z.who, nt z.ref, .agg #[nt z.v.kind, .bool z.v.aye, nt z.v.level, nt z.v.a, nt z.v.n, nt z.v.s]] (some 70) (by kernel_rfl) (by kernel_rfl) (by kernel_rfl) (by kernel_rfl) (vote_nil (pt l7) z.who z.ref z.v _) ?_
 rintro _ w37 ⟨rfl, hk38⟩
 have K39 := K35.tr (Keep.ofNone hk38)
 refine ⟨_, rfl, K39, ?_⟩
 have hzK39 := Keep.size K39
 have hsz40 := Keep.size hk38
 replace hb1 := hb1.keep hk38 (fun f => f)
 replace hK0 := Keep.tr hK0 (Keep.ofNone hk38)
 replace ho9 := Led.keep ho9 hk38 (fun _ _ f => f)
 refine GI_static [23, 24, 25, 26, 27, 28, 29, 30, 31, 32, 33, 34, 35, 36, 37, 38, 39, 40, 41, 42, 43, 44, 45, 46, 47, 48, 49, 50, 51, 52, 53, 54] [(1, pt b1), (3, .pointer none), (4, pt l7), (8, nt 0), (9, .bool false), (10, nt 0), (11, nt 0), (12, .slice none 0 0), (55, nt 1), (61, nt 1), (70, nt 1), (71, .pointer none), (72, .pointer (some ⟨b1, 1, none⟩))] (by kernel_rfl) ?_
 refine GI_cell 3 (.tmp 72) 1 (nt z.who) (some 73) (by kernel_rfl) (by kernel_rfl) (by kernel_rfl) qhb1 (fun f => f) (m := 1) (by kernel_rfl) rfl ?_
 refine GI_static [25, 26, 27, 28, 29, 30, 31, 32, 33, 34, 35, 36, 37, 38, 39, 40, 41, 42, 43, 44, 45, 46, 47, 48, 49, 50, 51, 52, 53, 54] [(1, pt b1), (3, .pointer none), (4, pt l7), (8, nt 0), (9, .bool false), (10, nt 0), (11, nt 0), (12, .slice none 0 0), (55, nt 1), (61, nt 1), (70, nt 1), (71, .pointer none), (73, nt z.who), (74, .pointer (some ⟨b1, 2, none⟩))] (by kernel_rfl) ?_
 refine GI_cell 3 (.tmp 74) 2 (nt z.ref) (some 75) (by kernel_rfl) (by kernel_rfl) (by kernel_rfl) qhb1 (fun f => f) (m := 1) (by kernel_rfl) rfl ?_
 refine GI_call { callee := (Callee.value (Operand.func 25)), args := #[(Operand.tmp 71), (Operand.tmp 73), (Operand.tmp 75), (Operand.const (Value.int IntKind.i64 0))], argTypes := #[31, 3, 3, 3] } 25 #[.pointer none, nt z.who, nt z.ref, nt 0] (some 76) (by kernel_rfl) (by kernel_rfl) (by kernel_rfl) (by kernel_rfl) (unvote_nil z.who z.ref 0 _) ?_
 rintro _ w41 ⟨rfl, hk42⟩
 have K43 := K39.tr (Keep.ofNone hk42)
 refine ⟨_, rfl, K43, ?_⟩
 have hzK43 := Keep.size K43
 have hsz44 := Keep.size hk42
 replace hb1 := hb1.keep hk42 (fun f => f)
 replace hK0 := Keep.tr hK0 (Keep.ofNone hk42)
 replace ho9 := Led.keep ho9 hk42 (fun _ _ f => f)
 refine GI_static [30, 31, 32, 33, 34, 35, 36, 37, 38, 39, 40, 41, 42, 43, 44, 45, 46, 47, 48, 49, 50, 51, 52, 53, 54] [(1, pt b1), (3, .pointer none), (4, pt l7), (8, nt 0), (9, .bool false), (10, nt 0), (11, nt 0), (12, .slice none 0 0), (55, nt 1), (61, nt 1), (70, nt 1), (76, nt 1), (77, .pointer none), (78, pt l7), (79, .pointer (some ⟨b1, 1, none⟩))] (by kernel_rfl) ?_
 refine GI_cell 3 (.tmp 79) 1 (nt z.who) (some 80) (by kernel_rfl) (by kernel_rfl) (by kernel_rfl) qhb1 (fun f => f) (m := 1) (by kernel_rfl) rfl ?_
 refine GI_static [32, 33, 34, 35, 36, 37, 38, 39, 40, 41, 42, 43, 44, 45, 46, 47, 48, 49, 50, 51, 52, 53, 54] [(1, pt b1), (3, .pointer none), (4, pt l7), (8, nt 0), (9, .bool false), (10, nt 0), (11, nt 0), (12, .slice none 0 0), (55, nt 1), (61, nt 1), (70, nt 1), (76, nt 1), (77, .pointer none), (78, pt l7), (80, nt z.who), (81, .pointer (some ⟨b1, 3, none⟩))] (by kernel_rfl) ?_
 refine GI_cell 3 (.tmp 81) 3 (nt z.tr) (some 82) (by kernel_rfl) (by kernel_rfl) (by kernel_rfl) qhb1 (fun f => f) (m := 1) (by kernel_rfl) rfl ?_
 refine GI_static [34, 35, 36, 37, 38, 39, 40, 41, 42, 43, 44, 45, 46, 47, 48, 49, 50, 51, 52, 53, 54] [(1, pt b1), (3, .pointer none), (4, pt l7), (8, nt 0), (9, .bool false), (10, nt 0), (11, nt 0), (12, .slice none 0 0), (55, nt 1), (61, nt 1), (70, nt 1), (76, nt 1), (77, .pointer none), (78, pt l7), (80, nt z.who), (82, nt z.tr), (83, .pointer (some ⟨b1, 5, none⟩))] (by kernel_rfl) ?_
 refine GI_cell 3 (.tmp 83) 5 (nt z.to) (some 84) (by kernel_rfl) (by kernel_rfl) (by kernel_rfl) qhb1 (fun f => f) (m := 1) (by kernel_rfl) rfl ?_
 refine GI_static [36, 37, 38, 39, 40, 41, 42, 43, 44, 45, 46, 47, 48, 49, 50, 51, 52, 53, 54] [(1, pt b1), (3, .pointer none), (4, pt l7), (8, nt 0), (9, .bool false), (10, nt 0), (11, nt 0), (12, .slice none 0 0), (55, nt 1), (61, nt 1), (70, nt 1), (76, nt 1), (77, .pointer none), (78, pt l7), (80, nt z.who), (82, nt z.tr), (84, nt z.to), (85, .pointer (some ⟨b1, 6, none⟩))] (by kernel_rfl) ?_
 refine GI_cell 3 (.tmp 85) 6 (nt z.lv) (some 86) (by kernel_rfl) (by kernel_rfl) (by kernel_rfl) qhb1 (fun f => f) (m := 1) (by kernel_rfl) rfl ?_
 refine GI_static [38, 39, 40, 41, 42, 43, 44, 45, 46, 47, 48, 49, 50, 51, 52, 53, 54] [(1, pt b1), (3, .pointer none), (4, pt l7), (8, nt 0), (9, .bool false), (10, nt 0), (11, nt 0), (12, .slice none 0 0), (55, nt 1), (61, nt 1), (70, nt 1), (76, nt 1), (77, .pointer none), (78, pt l7), (80, nt z.who), (82, nt z.tr), (84, nt z.to), (86, nt z.lv), (87, .pointer (some ⟨b1, 7, none⟩))] (by kernel_rfl) ?_
 refine GI_cell 3 (.tmp 87) 7 (nt z.n) (some 88) (by kernel_rfl) (by kernel_rfl) (by kernel_rfl) qhb1 (fun f => f) (m := 1) (by kernel_rfl) rfl ?_
 refine GI_call { callee := (Callee.value (Operand.func 17)), args := #[(Operand.tmp 77), (Operand.tmp 78), (Operand.tmp 80), (Operand.tmp 82), (Operand.tmp 84), (Operand.tmp 86), (Operand.tmp 88)], argTypes := #[31, 30, 3, 3, 3, 3, 3] } 17 #[.pointer none, pt l7, nt z.who, nt z.tr, nt z.to, nt z.lv, nt z.n] (some 89) (by kernel_rfl) (by kernel_rfl) (by kernel_rfl) (by kernel_rfl) (delegate_nil (pt l7) z.who z.tr z.to z.lv z.n _) ?_
 rintro _ w45 ⟨rfl, hk46⟩
 have K47 := K43.tr (Keep.ofNone hk46)
 refine ⟨_, rfl, K47, ?_⟩
 have hzK47 := Keep.size K47
 have hsz48 := Keep.size hk46
 replace hb1 := hb1.keep hk46 (fun f => f)
 replace hK0 := Keep.tr hK0 (Keep.ofNone hk46)
 replace ho9 := Led.keep ho9 hk46 (fun _ _ f => f)
 refine GI_static [42, 43, 44, 45, 46, 47, 48, 49, 50, 51, 52, 53, 54] [(1, pt b1), (3, .pointer none), (4, pt l7), (8, nt 0), (9, .bool false), (10, nt 0), (11, nt 0), (12, .slice none 0 0), (55, nt 1), (61, nt 1), (70, nt 1), (76, nt 1), (89, nt 1), (90, .pointer none), (91, .pointer (some ⟨b1, 1, none⟩))] (by kernel_rfl) ?_
 refine GI_cell 3 (.tmp 91) 1 (nt z.who) (some 92) (by kernel_rfl) (by kernel_rfl) (by kernel_rfl) qhb1 (fun f => f) (m := 1) (by kernel_rfl) rfl ?_
 refine GI_static [44, 45, 46, 47, 48, 49, 50, 51, 52, 53, 54] [(1, pt b1), (3, .pointer none), (4, pt l7), (8, nt 0), (9, .bool false), (10, nt 0), (11, nt 0), (12, .slice none 0 0), (55, nt 1), (61, nt 1), (70, nt 1), (76, nt 1), (89, nt 1), (90, .pointer none), (92, nt z.who), (93, .pointer (some ⟨b1, 3, none⟩))] (by kernel_rfl) ?_
 refine GI_cell 3 (.tmp 93) 3 (nt z.tr) (some 94) (by kernel_rfl) (by kernel_rfl) (by kernel_rfl) qhb1 (fun f => f) (m := 1) (by kernel_rfl) rfl ?_
 refine GI_call { callee := (Callee.value (Operand.func 23)), args := #[(Operand.tmp 90), (Operand.tmp 92), (Operand.tmp 94), (Operand.const (Value.int IntKind.i64 0))], argTypes := #[31, 3, 3, 3] } 23 #[.pointer none, nt z.who, nt z.tr, nt 0] (some 95) (by kernel_rfl) (by kernel_rfl) (by kernel_rfl) (by kernel_rfl) (undelegate_nil z.who z.tr 0 _) ?_
 rintro _ w49 ⟨rfl, hk50⟩
 have K51 := K47.tr (Keep.ofNone hk50)
 refine ⟨_, rfl, K51, ?_⟩
 have hzK51 := Keep.size K51
 have hsz52 := Keep.size hk50
 replace hb1 := hb1.keep hk50 (fun f => f)
 replace hK0 := Keep.tr hK0 (Keep.ofNone hk50)
 replace ho9 := Led.keep ho9 hk50 (fun _ _ f => f)
 refine GI_static [49, 50, 51, 52, 53, 54] [(1, pt b1), (3, .pointer none), (8, nt 0), (9, .bool false), (10, nt 0), (11, nt 0), (12, .slice none 0 0), (55, nt 1), (61, nt 1), (70, nt 1), (76, nt 1), (89, nt 1), (95, nt 1), (96, .pointer none), (97, pt l7), (98, .pointer (some ⟨b1, 1, none⟩))] (by kernel_rfl) ?_
 refine GI_cell 3 (.tmp 98) 1 (nt z.who) (some 99) (by kernel_rfl) (by kernel_rfl) (by kernel_rfl) qhb1 (fun f => f) (m := 1) (by kernel_rfl) rfl ?_
 refine GI_static [51, 52, 53, 54] [(1, pt b1), (3, .pointer none), (8, nt 0), (9, .bool false), (10, nt 0), (11, nt 0), (12, .slice none 0 0), (55, nt 1), (61, nt 1), (70, nt 1), (76, nt 1), (89, nt 1), (95, nt 1), (96, .pointer none), (97, pt l7), (99, nt z.who), (100, .pointer (some ⟨b1, 3, none⟩))] (by kernel_rfl) ?_
 refine GI_cell 3 (.tmp 100) 3 (nt z.tr) (some 101) (by kernel_rfl) (by kernel_rfl) (by kernel_rfl) qhb1 (fun f => f) (m := 1) (by kernel_rfl) rfl ?_
 refine GI_call { callee := (Callee.value (Operand.func 28)), args := #[(Operand.tmp 96), (Operand.tmp 97), (Operand.tmp 99), (Operand.tmp 101), (Operand.const (Value.int IntKind.i64 0))], argTypes := #[31, 30, 3, 3, 3] } 28 #[.pointer none, pt l7, nt z.who, nt z.tr, nt 0] (some 102) (by kernel_rfl) (by kernel_rfl) (by kernel_rfl) (by kernel_rfl) (unlock_nil (pt l7) z.who z.tr 0 _) ?_
 rintro _ w53 ⟨rfl, hk54⟩
 have K55 := K51.tr (Keep.ofNone hk54)
 refine ⟨_, rfl, K55, ?_⟩
 have hzK55 := Keep.size K55
 have hsz56 := Keep.size hk54
 replace hb1 := hb1.keep hk54 (fun f => f)
 replace hK0 := Keep.tr hK0 (Keep.ofNone hk54)
 replace ho9 := Led.keep ho9 hk54 (fun _ _ f => f)
 refine GI_slit (E := 29) (zv := nt 0) (sz := 1) (by_ := 8) 67 7 #[(0, (Operand.tmp 55)), (1, (Operand.tmp 61)), (2, (Operand.tmp 70)), (3, (Operand.tmp 76)), (4, (Operand.tmp 89)), (5, (Operand.tmp 95)), (6, (Operand.tmp 102))] [nt 1, nt 1, nt 1, nt 1, nt 1, nt 1, nt 1] [nt 1, nt 1, nt 1, nt 1, nt 1, nt 1, nt 1] (some 103) (by kernel_rfl) (by kernel_rfl) K55 (by kernel_rfl) (by kernel_rfl) (by omega) rfl (by omega) (by intro v hv; simp only [List.mem_cons, List.not_mem_nil, or_false] at hv; rcases hv with rfl | rfl | rfl | rfl | rfl | rfl | rfl <;> rfl) (by kernel_rfl) rfl ?_
 intro b57 w57 e57 hb57 k57 z57 K58
 have hsz59 := Keep.size k57
 replace hb1 := hb1.keep k57 (fun f => f)
 replace hK0 := Keep.tr hK0 (Keep.ofNone k57)
 replace ho9 := Led.keep ho9 k57 (fun _ _ f => f)
 have hb57lt := hb57.lt
 refine GI_static [] [(1, pt b1), (3, .pointer none), (8, nt 0), (9, .bool false), (10, nt 0), (11, nt 0), (12, .slice none 0 0), (14, .slice (some ⟨b57, 0, none⟩) 7 7)] (by kernel_rfl) ?_
 refine GI_end ?_
 refine X_then ?_
 refine V_seq ?_
 refine V_seq ?_
 refine V_region ?_
 refine OI_static 1 [(1, pt b1), (3, .pointer none), (8, nt 0), (9, .bool false), (10, nt 0), (11, nt 0), (12, .slice none 0 0), (14, .slice (some ⟨b57, 0, none⟩) 7 7), (15, nt 0)] (by kernel_rfl) ?_
 refine OI_end rfl ?_
 refine X_then ?_
 refine V_block ?_
 refine V_pick [(1, pt b1), (3, .pointer none), (8, nt 0), (9, .bool false), (10, nt 0), (11, nt 0), (12, .slice none 0 0), (14, .slice (some ⟨b57, 0, none⟩) 7 7), (15, nt 0)] rfl ?_
 refine V_loop (fun k wI e => ∃ i : Nat, (k + i = 7) ∧ Keep none_ w57 wI ∧ e = [(1, pt b1), (3, .pointer none), (8, nt 0), (9, .bool false), (10, nt 0), (11, nt 0), (12, .slice none 0 0), (14, .slice (some ⟨b57, 0, none⟩) 7 7), (15, nt ((i : Nat) : Int))]) 7 ⟨0, by omega, Keep.refl _ _, rfl⟩ ?_
 rintro k61 w60 _ ⟨i, hki, hk62, rfl⟩
 have hsz63 := Keep.size hk62
 replace hb1 := hb1.keep hk62 (fun f => f)
 replace hb57 := hb57.keep hk62 (fun f => f)
 replace hK0 := Keep.tr hK0 (Keep.ofNone hk62)
 replace ho9 := Led.keep ho9 hk62 (fun _ _ f => f)
 have hzhk62 := Keep.size hk62
 refine V_seq ?_
 refine V_seq ?_
 refine V_region ?_
 refine OI_static 4 [(1, pt b1), (3, .pointer none), (8, nt 0), (9, .bool false), (10, nt 0), (11, nt 0), (12, .slice none 0 0), (14, .slice (some ⟨b57, 0, none⟩) 7 7), (15, nt ((i : Nat) : Int)), (107, .bool (decide (((i : Nat) : Int) < 7)))] (by kernel_rfl) ?_
 refine OI_end rfl ?_
 refine X_then ?_
 refine V_if (((i : Nat) : Int) < 7) (by kernel_rfl) (fun hc64 => ?_) (fun hc64 => ?_)
 ·
  refine V_skip ?_
  refine X_then ?_
  refine V_seq ?_
  refine V_block ?_
  refine V_seq ?_
  refine V_region ?_
  refine OI_static 2 [(1, pt b1), (3, .pointer none), (8, nt 0), (9, .bool false), (10, nt 0), (11, nt 0), (12, .slice none 0 0), (14, .slice (some ⟨b57, 0, none⟩) 7 7), (15, nt ((i : Nat) : Int)), (110, .slice (some ⟨b57, 0, none⟩) 7 7), (111, nt ((i : Nat) : Int))] (by kernel_rfl) ?_
  refine OI_pure (some 112) (.indexAddr 67 (.tmp 110) (.tmp 111)) (by kernel_rfl) (pure_idxN (b := b57) (o := 0) (len := 7) (cap := 7) (kd := .i64) (j := i) (E := 29) (sz := 1) (by_ := 8) (by kernel_rfl) (by kernel_rfl) (by kernel_rfl) (by omega)) ?_
  refine OI_cell 29 (.tmp 112) (0 + i * 1) (nt 1) (some 113) (by kernel_rfl) (by kernel_rfl) hb57 (m := 1) (by kernel_rfl) (on7 (by omega)) ?_
  refine OI_static 5 [(1, pt b1), (3, .pointer none), (8, nt 0), (9, .bool false), (10, nt 0), (11, nt 0), (12, .slice none 0 0), (14, .slice (some ⟨b57, 0, none⟩) 7 7), (15, nt ((i : Nat) : Int)), (114, .bool false)] (by kernel_rfl) ?_
  refine OI_end rfl ?_
  refine X_then ?_
  refine V_false rfl ?_
  refine V_skip ?_
  refine X_block ?_
  refine X_then ?_
  refine V_region ?_
  have hw65 : IntKind.i64.wrap (((i : Nat) : Int) + 1) = ((i + 1 : Nat) : Int) := (wrap64_id (by omega) (by omega)).trans (by omega)
  refine OI_static 2 [(1, pt b1), (3, .pointer none), (8, nt 0), (9, .bool false), (10, nt 0), (11, nt 0), (12, .slice none 0 0), (14, .slice (some ⟨b57, 0, none⟩) 7 7), (109, nt (IntKind.i64.wrap (((i : Nat) : Int) + 1)))] (by kernel_rfl) ?_
  refine OI_eq [(1, pt b1), (3, .pointer none), (8, nt 0), (9, .bool false), (10, nt 0), (11, nt 0), (12, .slice none 0 0), (14, .slice (some ⟨b57, 0, none⟩) 7 7), (109, nt ((i + 1 : Nat) : Int))] (by rw [hw65]) ?_
  refine OI_static 3 [(1, pt b1), (3, .pointer none), (8, nt 0), (9, .bool false), (10, nt 0), (11, nt 0), (12, .slice none 0 0), (14, .slice (some ⟨b57, 0, none⟩) 7 7), (15, nt ((i + 1 : Nat) : Int))] (by kernel_rfl) ?_
  refine OI_end rfl ?_
  exact V_again (k61 - 1) (by omega) [(1, pt b1), (3, .pointer none), (8, nt 0), (9, .bool false), (10, nt 0), (11, nt 0), (12, .slice none 0 0), (14, .slice (some ⟨b57, 0, none⟩) 7 7), (15, nt ((i + 1 : Nat) : Int))] rfl ⟨i + 1, by omega, hk62, rfl⟩
 ·
  refine V_exit ?_
  refine X_exit_then ?_
  refine X_exit_then ?_
  refine X_exit_here ?_
  refine X_then ?_
  refine V_seq ?_
  refine V_region ?_
  refine OI_static 2 [(1, pt b1), (3, .pointer none), (8, nt 0), (9, .bool false), (10, nt 0), (11, nt 0), (12, .slice none 0 0), (115, .pointer none), (116, .pointer (some ⟨b1, 2, none⟩))] (by kernel_rfl) ?_
  refine OI_cell 3 (.tmp 116) 2 (nt z.ref) (some 117) (by kernel_rfl) (by kernel_rfl) hb1 (m := 1) (by kernel_rfl) rfl ?_
  refine OI_call { callee := (Callee.value (Operand.func 20)), args := #[(Operand.tmp 115), (Operand.tmp 117)], argTypes := #[31, 3] } 20 #[.pointer none, nt z.ref] (some 118) (by kernel_rfl) (by kernel_rfl) (by kernel_rfl) (tally_nil z.ref _) ?_
  rintro _ w66 ⟨rfl, hk67⟩
  refine ⟨_, rfl, ?_⟩
  have hsz68 := Keep.size hk67
  replace hb1 := hb1.keep hk67 (fun f => f)
  replace hK0 := Keep.tr hK0 (Keep.ofNone hk67)
  replace ho9 := Led.keep ho9 hk67 (fun _ _ f => f)
  refine OI_static 5 [(1, pt b1), (3, .pointer none), (8, nt 0), (9, .bool false), (10, nt 0), (11, nt 0), (12, .slice none 0 0), (118, .agg #[nt 0, nt 0, nt 0]), (119, .agg #[nt 0, nt 0, nt 0])] (by kernel_rfl) ?_
  refine OI_pure (some 120) ((Op.binOp BinOp.eql 43 (Operand.tmp 118) (Operand.tmp 119) 43)) (by kernel_rfl) (pure_eql_same (xs := [nt 0, nt 0, nt 0]) (by kernel_rfl) (by kernel_rfl) (by kernel_rfl) (by kernel_rfl)) ?_
  refine OI_static 9 [(1, pt b1), (8, nt 0), (9, .bool false), (10, nt 0), (11, nt 0), (12, .slice none 0 0), (121, .bool true), (122, .pointer none), (123, .pointer (some ⟨b1, 1, none⟩))] (by kernel_rfl) ?_
  refine OI_cell 3 (.tmp 123) 1 (nt z.who) (some 124) (by kernel_rfl) (by kernel_rfl) hb1 (m := 1) (by kernel_rfl) rfl ?_
  refine OI_static 11 [(8, nt 0), (9, .bool false), (10, nt 0), (11, nt 0), (12, .slice none 0 0), (121, .bool true), (122, .pointer none), (124, nt z.who), (125, .pointer (some ⟨b1, 3, none⟩))] (by kernel_rfl) ?_
  refine OI_cell 3 (.tmp 125) 3 (nt z.tr) (some 126) (by kernel_rfl) (by kernel_rfl) hb1 (m := 1) (by kernel_rfl) rfl ?_
  refine OI_call { callee := (Callee.value (Operand.func 27)), args := #[(Operand.tmp 122), (Operand.tmp 124), (Operand.tmp 126)], argTypes := #[31, 3, 3] } 27 #[.pointer none, nt z.who, nt z.tr] (some 127) (by kernel_rfl) (by kernel_rfl) (by kernel_rfl) (got_nil z.who z.tr _) ?_
  rintro _ w69 ⟨rfl, hk70⟩
  refine ⟨_, rfl, ?_⟩
  have hsz71 := Keep.size hk70
  replace hb1 := hb1.keep hk70 (fun f => f)
  replace hK0 := Keep.tr hK0 (Keep.ofNone hk70)
  replace ho9 := Led.keep ho9 hk70 (fun _ _ f => f)
  refine OI_static 14 [(8, nt 0), (9, .bool false), (10, nt 0), (11, nt 0), (12, .slice none 0 0), (121, .bool true), (127, .agg #[nt 0, nt 0]), (128, .agg #[nt 0, nt 0])] (by kernel_rfl) ?_
  refine OI_pure (some 129) ((Op.binOp BinOp.eql 54 (Operand.tmp 127) (Operand.tmp 128) 54)) (by kernel_rfl) (pure_eql_same (xs := [nt 0, nt 0]) (by kernel_rfl) (by kernel_rfl) (by kernel_rfl) (by kernel_rfl)) ?_
  refine OI_static 32 [(146, .bool true)] (by kernel_rfl) ?_
  refine OI_call { callee := (Callee.value (Operand.func 22)), args := #[], argTypes := #[] } 22 #[] (some 147) (by kernel_rfl) (by kernel_rfl) (by kernel_rfl) (known_spec _) ?_
  rintro _ w72 ⟨rfl, hk73⟩
  refine ⟨_, rfl, ?_⟩
  have hsz74 := Keep.size hk73
  replace hb1 := hb1.keep hk73 (fun f => f)
  replace hK0 := Keep.tr hK0 (Keep.ofNone hk73)
  replace ho9 := Led.keep ho9 hk73 (fun _ _ f => f)
  refine OI_static 35 [(2, .bool true)] (by kernel_rfl) ?_
  refine OI_end rfl ?_
  refine X_then ?_
  refine V_ret ?_
  exact X_return (.bool true) rfl ⟨rfl, hK0⟩

theorem over_VotingOfNothing {H : Type} {enc : TypeId × Value → H} {c0 : Array Value} {d0 : DataW H} {p0 : List MemPlace} {w : World} (h0 : DataW.Trod enc Tryz.prog w 0 (fun _ => true) true 60 (.agg c0) d0 p0) : Calls Tryz.prog 7 #[.agg c0] w fun e w' => e = .returned (.bool true) ∧ Keep none_ w w' := by
  obtain ⟨z, hz⟩ := lift_av _ (read_agg (n := 5) (ks := ksA) (by kernel_rfl) h0)
  have hc : c0 = z.cells.toArray := by rw [hz]
  subst hc
  exact walk_VotingOfNothing z w
end Go.Al

