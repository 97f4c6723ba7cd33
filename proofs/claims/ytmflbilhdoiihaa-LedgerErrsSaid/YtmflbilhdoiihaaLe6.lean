/-
  Walks of package ledger: what changes it: Release, Slash.
-/
import Derived.Test.YtmflbilhdoiihaaLe5
namespace Go.Al
open Go Go.RowKit Go.Proofs
theorem release_spec (F : Nat → Prop) (l : Nat) (xs : List Acc) (cs : List Ci) (a n : Int) (w : World) (h : Led F w l xs cs) : Calls Try.prog 27 #[.pointer (some ⟨l, 0, none⟩), .int .i64 a, .int .i64 n] w fun e w' => e = .returned (.int .i64 (tkN xs a n)) ∧ (∃ F', Led F' w' l (relX xs a n) (cs) ∧ (∀ q, F' q → F q ∨ w.heap.size ≤ q)) ∧ Keep F w w' := by
  have hFlt := Led.lt h
  have hllt := hFlt _ (Led.at_ h)
  have hinv := Led.inv h
  have htot0 := (tot_mem hinv.2.1).1
  have htot1 := hinv.2.2
  have hK0 : Keep F w w := Keep.refl _ _
  have hzhK0 := Keep.size hK0
  refine enterV Try.func27 rfl [.pointer (some ⟨l, 0, none⟩), .int .i64 a, .int .i64 n] 26 rfl rfl rfl ?_
  refine V_pick [(0, .pointer (some ⟨l, 0, none⟩)), (1, .int .i64 a), (2, .int .i64 n)] rfl ?_
  refine V_seq ?_
  refine V_region ?_
  refine OI_static 1 [(0, .pointer (some ⟨l, 0, none⟩)), (1, .int .i64 a), (2, .int .i64 n)] (by kernel_rfl) ?_
  refine OI_end rfl ?_
  refine X_then ?_
  refine V_seq ?_
  refine V_region ?_
  refine OI_static 3 [(0, .pointer (some ⟨l, 0, none⟩)), (1, .int .i64 a), (7, .pointer (some ⟨l, 0, none⟩)), (8, .int .i64 a), (9, .int .i64 n)] (by kernel_rfl) ?_
  refine OI_call { callee := (Callee.value (Operand.func 39)), args := #[(Operand.tmp 7), (Operand.tmp 8), (Operand.tmp 9)], argTypes := #[22, 3, 3] } 39 #[.pointer (some ⟨l, 0, none⟩), .int .i64 a, .int .i64 n] (some 10) (by kernel_rfl) (by kernel_rfl) (by kernel_rfl) (takes_spec F l xs cs a n _ h) ?_
  rintro _ w1 ⟨rfl, ⟨F3, ho4, hfr5⟩, hk2⟩
  refine ⟨_, rfl, ?_⟩
  have hsz6 := Keep.size hk2
  replace hK0 := Keep.fresh hK0 hk2 (by intro i hi hs; first | exact hs | (exfalso; have h2 := hFlt i hs; omega) | (have h2 := hFlt i hs; show _ ∨ _; omega)); have hzhK0 := Keep.size hK0
  have lt7 := Led.lt ho4
  refine OI_static 5 [(0, .pointer (some ⟨l, 0, none⟩)), (1, .int .i64 a), (2, .int .i64 (tkN xs a n))] (by kernel_rfl) ?_
  refine OI_end rfl ?_
  refine X_then ?_
  refine V_seq ?_
  refine V_seq ?_
  refine V_region ?_
  refine OI_static 2 [(0, .pointer (some ⟨l, 0, none⟩)), (1, .int .i64 a), (2, .int .i64 (tkN xs a n)), (12, .bool (decide (tkN xs a n > 0)))] (by kernel_rfl) ?_
  refine OI_end rfl ?_
  refine X_then ?_
  refine V_if (tkN xs a n > 0) (by kernel_rfl) (fun hc8 => ?_) (fun hc8 => ?_)
  · skip
    have htx := tkX_tot hinv a n
    obtain ⟨hinvu9, hFlu9, hFltu9, gu9, Au9, capu9, Du9, hatu9, hGu9, hAFu9, hDFu9, hADu9⟩ := ho4
    have hlu9 := hatu9.blk
    have hAu9 := hatu9.sl
    have hlku9 := hlu9.lt
    have hAlu9 := fun q hq => And.intro (hAFu9 q hq).2 (lt7 q (hAFu9 q hq).1)
    have hAltu9 := SlT.lt hAu9
    have hDlu9 := fun q hq => And.intro (hDFu9 q hq).2 (lt7 q (hDFu9 q hq).1)
    have hDltu9 := Grd.lt hGu9
    have hx10u9 := hinvu9.1
    have htotu9 := hinvu9.2.2
    have hgu9lt := hDltu9 _ (Grd.at_ hGu9)
    obtain ⟨j10, hj10, hjl10⟩ : ∃ j : Nat, a = j ∧ j < 10 := ⟨(a).toNat, by have h9 := (tkN_pos hc8); simp only [isA, decide_eq_true_eq] at h9; omega, by have h9 := (tkN_pos hc8); simp only [isA, decide_eq_true_eq] at h9; omega⟩
    obtain ⟨x0, hx0⟩ : ∃ x, (tkX xs a n)[j10]? = some x := ⟨_, List.getElem?_eq_getElem (by omega)⟩
    have hxa := acct_at hj10 hx0 hjl10
    obtain ⟨hbf0, hbh0, hbt0, _⟩ := hinvu9.at_ hx0
    have htn := tkN_bnd hinv a n
    have htb := acct_bnd hinv a
    refine V_region ?_
    refine OI_static 3 [(1, .int .i64 a), (2, .int .i64 (tkN xs a n)), (15, .pointer (some ⟨l, 0, none⟩))] (by kernel_rfl) ?_
    refine OI_cell 64 (.tmp 15) 0 (.slice Au9 ((tkX xs a n).length) capu9) (some 16) (by kernel_rfl) (by kernel_rfl) hlu9 (m := 1) (by kernel_rfl) rfl ?_
    refine OI_static 5 [(2, .int .i64 (tkN xs a n)), (16, .slice Au9 ((tkX xs a n).length) capu9), (17, .int .i64 a)] (by kernel_rfl) ?_
    obtain ⟨b11, o11, L11, T11, rfl, hat11⟩ := SlT.open_ hAu9 (by first | omega | (simp only [List.length_map]; omega) | (simp; done) | (simp; omega))
    have hb11lt := hat11.blk.lt
    have hob12 := hAlu9 b11 ⟨_, rfl, rfl⟩
    have hob13 := hAltu9 b11 ⟨_, rfl, rfl⟩
    have hne14 : ∀ q, Du9 q → q ≠ b11 := fun q hq hs => (fun q h1 h2 => hADu9 q h2 h1) q hq ⟨_, rfl, hs⟩
    have own15 := fun q hq => And.intro (hDlu9 q hq) (hne14 q hq)
    refine OI_pick [(2, .int .i64 (tkN xs a n)), (16, .slice (some ⟨b11, o11, none⟩) ((tkX xs a n).length) capu9), (17, .int .i64 a)] (by kernel_rfl) ?_
    refine OI_eq [(2, .int .i64 (tkN xs a n)), (16, .slice (some ⟨b11, o11, none⟩) ((tkX xs a n).length) capu9), (17, .int .i64 ((j10 : Nat) : Int))] (by rw [hj10]) ?_
    refine OI_pure (some 18) (.indexAddr 64 (.tmp 16) (.tmp 17)) (by kernel_rfl) (pure_idxN (b := b11) (o := o11) (len := (tkX xs a n).length) (cap := capu9) (kd := .i64) (j := j10) (E := 68) (sz := 2) (by_ := 16) (by kernel_rfl) (by kernel_rfl) (by kernel_rfl) (by omega)) ?_
    refine OI_static 7 [(2, .int .i64 (tkN xs a n)), (16, .slice (some ⟨b11, o11, none⟩) ((tkX xs a n).length) capu9), (17, .int .i64 ((j10 : Nat) : Int)), (19, .pointer (some ⟨b11, o11 + j10 * 2, none⟩))] (by kernel_rfl) ?_
    refine OI_cell 3 (.tmp 19) (o11 + j10 * 2) (.int .i64 x0.free) (some 20) (by kernel_rfl) (by kernel_rfl) hat11.blk (m := 1) (by kernel_rfl) (At.cell0 hat11 (es_at hx0) rfl) ?_
    have hw16 : IntKind.i64.wrap (x0.free + (tkN xs a n)) = x0.free + (tkN xs a n) := (wrap64_id (by omega) (by omega)).trans (by omega)
    refine OI_static 10 [(2, .int .i64 (tkN xs a n)), (16, .slice (some ⟨b11, o11, none⟩) ((tkX xs a n).length) capu9), (17, .int .i64 ((j10 : Nat) : Int)), (22, .int .i64 (IntKind.i64.wrap (x0.free + (tkN xs a n))))] (by kernel_rfl) ?_
    refine OI_eq [(2, .int .i64 (tkN xs a n)), (16, .slice (some ⟨b11, o11, none⟩) ((tkX xs a n).length) capu9), (17, .int .i64 ((j10 : Nat) : Int)), (22, .int .i64 (x0.free + (tkN xs a n)))] (by rw [hw16]) ?_
    refine OI_pure (some 23) (.indexAddr 64 (.tmp 16) (.tmp 17)) (by kernel_rfl) (pure_idxN (b := b11) (o := o11) (len := (tkX xs a n).length) (cap := capu9) (kd := .i64) (j := j10) (E := 68) (sz := 2) (by_ := 16) (by kernel_rfl) (by kernel_rfl) (by kernel_rfl) (by omega)) ?_
    refine OI_static 12 [(2, .int .i64 (tkN xs a n)), (22, .int .i64 (x0.free + (tkN xs a n))), (24, .pointer (some ⟨b11, o11 + j10 * 2, none⟩))] (by kernel_rfl) ?_
    refine OI_set (m := 1) (kd := false) 3 (.tmp 24) (.tmp 22) (o11 + j10 * 2) (.int .i64 (x0.free + (tkN xs a n))) [.int .i64 (x0.free + (tkN xs a n))] none (by kernel_rfl) (by kernel_rfl) (by kernel_rfl) (At.blk hat11) (by kernel_rfl) (by kernel_rfl) rfl (by have h1 := At.room hat11; have h2 := At.le hat11; rw [List.length_map] at h2; omega) (by simp [Value.oneCell']) ?_
    intro w17 hn18 hk19 hz20
    have hat21 := At.set (y := (Acc.mk (x0.free + (tkN xs a n)) x0.held : Acc)) (k := 0) hat11 hx0 (by omega) (by simp [Acc.cells, over]) hn18
    have hsz22 := Keep.size hk19
    replace hlu9 := hlu9.keep hk19 (by show ¬ (_ = _); omega)
    have hllt := hlu9.lt
    replace hK0 := Keep.fresh hK0 hk19 (by intro i hi hs; have hs2 : i = b11 := hs; first | (exfalso; omega) | (have h9 := (hAFu9 i ⟨_, rfl, hs2⟩).1; rcases hfr5 i h9 with h9 | h9; exact h9; (exfalso; omega))); have hzhK0 := Keep.size hK0
    replace hGu9 := Grd.keep hGu9 hk19 (fun q hq hs => by have hs : q = b11 := hs; have g0 := own15 q hq; have g1 := hDltu9 q hq; omega)
    have hlhx23 : ((tkX xs a n).set j10 (Acc.mk (x0.free + (tkN xs a n)) x0.held)).length = (tkX xs a n).length := List.length_set
    have hx23 : ((tkX xs a n).set j10 (Acc.mk (x0.free + (tkN xs a n)) x0.held))[j10]? = some (Acc.mk (x0.free + (tkN xs a n)) x0.held) := by rw [List.getElem?_set_self (List.getElem?_eq_some_iff.1 hx0).1]
    have ht24 : tot ((tkX xs a n).set j10 (Acc.mk (x0.free + (tkN xs a n)) x0.held)) = tot (tkX xs a n) + ((x0.free + (tkN xs a n)) + x0.held) - (x0.free + x0.held) := tot_set _ hx0
    have hinv24 : Inv ((tkX xs a n).set j10 (Acc.mk (x0.free + (tkN xs a n)) x0.held)) := Inv.set hinvu9 hx0 _ (by show 0 ≤ (x0.free + (tkN xs a n)); omega) (by show 0 ≤ x0.held; omega) (by show tot (tkX xs a n) + ((x0.free + (tkN xs a n)) + x0.held) - (x0.free + x0.held) ≤ 1073741824; omega)
    refine OI_end rfl ?_
    refine X_then ?_
    refine V_seq ?_
    refine V_region ?_
    refine OI_static 2 [(6, .int .i64 (tkN xs a n))] (by kernel_rfl) ?_
    refine OI_end rfl ?_
    refine X_then ?_
    refine V_ret ?_
    exact X_return (.int .i64 (tkN xs a n)) rfl ⟨rfl, ⟨F3, (by rw [show relX xs a n = (tkX xs a n).set j10 (Acc.mk (x0.free + (tkN xs a n)) x0.held) from by unfold relX; rw [if_pos hc8]; unfold addF; rw [setA_at hj10, hxa]]; exact ⟨hinv24, hFlu9, fun q hq => Nat.lt_of_lt_of_le (hFltu9 q hq) (by omega), gu9, _, _, Du9, ⟨by simp only [List.length_set]; exact hlu9, At.slt hat21⟩, hGu9, hAFu9, hDFu9, hADu9⟩), hfr5⟩, hK0⟩
  · skip
    refine V_skip ?_
    refine X_then ?_
    refine V_seq ?_
    refine V_region ?_
    refine OI_static 2 [(6, .int .i64 (tkN xs a n))] (by kernel_rfl) ?_
    refine OI_end rfl ?_
    refine X_then ?_
    refine V_ret ?_
    exact X_return (.int .i64 (tkN xs a n)) rfl ⟨rfl, ⟨F3, by rw [show relX xs a n = tkX xs a n from by unfold relX; rw [if_neg hc8]]; exact ho4, hfr5⟩, hK0⟩

theorem slash_spec (F : Nat → Prop) (l : Nat) (xs : List Acc) (cs : List Ci) (a n : Int) (w : World) (h : Led F w l xs cs) : Calls Try.prog 26 #[.pointer (some ⟨l, 0, none⟩), .int .i64 a, .int .i64 n] w fun e w' => e = .returned (.int .i64 (tkN xs a n)) ∧ (∃ F', Led F' w' l (slX xs a n) (cs) ∧ (∀ q, F' q → F q ∨ w.heap.size ≤ q)) ∧ Keep F w w' := by
  have hFlt := Led.lt h
  have hllt := hFlt _ (Led.at_ h)
  have hinv := Led.inv h
  have htot0 := (tot_mem hinv.2.1).1
  have htot1 := hinv.2.2
  have hK0 : Keep F w w := Keep.refl _ _
  have hzhK0 := Keep.size hK0
  refine enterV Try.func26 rfl [.pointer (some ⟨l, 0, none⟩), .int .i64 a, .int .i64 n] 25 rfl rfl rfl ?_
  refine V_pick [(0, .pointer (some ⟨l, 0, none⟩)), (1, .int .i64 a), (2, .int .i64 n)] rfl ?_
  refine V_seq ?_
  refine V_region ?_
  refine OI_static 1 [(0, .pointer (some ⟨l, 0, none⟩)), (1, .int .i64 a), (2, .int .i64 n)] (by kernel_rfl) ?_
  refine OI_end rfl ?_
  refine X_then ?_
  refine V_seq ?_
  refine V_region ?_
  refine OI_static 3 [(0, .pointer (some ⟨l, 0, none⟩)), (7, .pointer (some ⟨l, 0, none⟩)), (8, .int .i64 a), (9, .int .i64 n)] (by kernel_rfl) ?_
  refine OI_call { callee := (Callee.value (Operand.func 39)), args := #[(Operand.tmp 7), (Operand.tmp 8), (Operand.tmp 9)], argTypes := #[22, 3, 3] } 39 #[.pointer (some ⟨l, 0, none⟩), .int .i64 a, .int .i64 n] (some 10) (by kernel_rfl) (by kernel_rfl) (by kernel_rfl) (takes_spec F l xs cs a n _ h) ?_
  rintro _ w1 ⟨rfl, ⟨F3, ho4, hfr5⟩, hk2⟩
  refine ⟨_, rfl, ?_⟩
  have hsz6 := Keep.size hk2
  replace hK0 := Keep.fresh hK0 hk2 (by intro i hi hs; first | exact hs | (exfalso; have h2 := hFlt i hs; omega) | (have h2 := hFlt i hs; show _ ∨ _; omega)); have hzhK0 := Keep.size hK0
  have lt7 := Led.lt ho4
  refine OI_static 5 [(0, .pointer (some ⟨l, 0, none⟩)), (2, .int .i64 (tkN xs a n))] (by kernel_rfl) ?_
  refine OI_end rfl ?_
  refine X_then ?_
  refine V_seq ?_
  refine V_seq ?_
  refine V_region ?_
  refine OI_static 2 [(0, .pointer (some ⟨l, 0, none⟩)), (2, .int .i64 (tkN xs a n)), (12, .bool (decide (tkN xs a n > 0)))] (by kernel_rfl) ?_
  refine OI_end rfl ?_
  refine X_then ?_
  refine V_if (tkN xs a n > 0) (by kernel_rfl) (fun hc8 => ?_) (fun hc8 => ?_)
  · skip
    have htx := tkX_tot hinv a n
    obtain ⟨hinvu9, hFlu9, hFltu9, gu9, Au9, capu9, Du9, hatu9, hGu9, hAFu9, hDFu9, hADu9⟩ := ho4
    have hlu9 := hatu9.blk
    have hAu9 := hatu9.sl
    have hlku9 := hlu9.lt
    have hAlu9 := fun q hq => And.intro (hAFu9 q hq).2 (lt7 q (hAFu9 q hq).1)
    have hAltu9 := SlT.lt hAu9
    have hDlu9 := fun q hq => And.intro (hDFu9 q hq).2 (lt7 q (hDFu9 q hq).1)
    have hDltu9 := Grd.lt hGu9
    have hx10u9 := hinvu9.1
    have htotu9 := hinvu9.2.2
    have hgu9lt := hDltu9 _ (Grd.at_ hGu9)
    obtain ⟨x0, hx0⟩ : ∃ x, (tkX xs a n)[0]? = some x := ⟨_, List.getElem?_eq_getElem (by omega)⟩
    obtain ⟨hbf0, hbh0, hbt0, _⟩ := hinvu9.at_ hx0
    have htn := tkN_bnd hinv a n
    have htb := acct_bnd hinv a
    refine V_region ?_
    refine OI_static 3 [(2, .int .i64 (tkN xs a n)), (15, .pointer (some ⟨l, 0, none⟩))] (by kernel_rfl) ?_
    refine OI_cell 64 (.tmp 15) 0 (.slice Au9 ((tkX xs a n).length) capu9) (some 16) (by kernel_rfl) (by kernel_rfl) hlu9 (m := 1) (by kernel_rfl) rfl ?_
    obtain ⟨b10, o10, L10, T10, rfl, hat10⟩ := SlT.open_ hAu9 (by first | omega | (simp only [List.length_map]; omega) | (simp; done) | (simp; omega))
    have hb10lt := hat10.blk.lt
    have hob11 := hAlu9 b10 ⟨_, rfl, rfl⟩
    have hob12 := hAltu9 b10 ⟨_, rfl, rfl⟩
    have hne13 : ∀ q, Du9 q → q ≠ b10 := fun q hq hs => (fun q h1 h2 => hADu9 q h2 h1) q hq ⟨_, rfl, hs⟩
    have own14 := fun q hq => And.intro (hDlu9 q hq) (hne13 q hq)
    refine OI_pure (some 17) (.indexAddr 64 (.tmp 16) (.const (Value.int IntKind.i64 0))) (by kernel_rfl) (pure_idxN (b := b10) (o := o10) (len := (tkX xs a n).length) (cap := capu9) (kd := .i64) (j := 0) (E := 68) (sz := 2) (by_ := 16) (by kernel_rfl) (by kernel_rfl) (by kernel_rfl) (by omega)) ?_
    refine OI_static 6 [(2, .int .i64 (tkN xs a n)), (16, .slice (some ⟨b10, o10, none⟩) ((tkX xs a n).length) capu9), (18, .pointer (some ⟨b10, o10 + 0 * 2, none⟩))] (by kernel_rfl) ?_
    refine OI_cell 3 (.tmp 18) (o10 + 0 * 2) (.int .i64 x0.free) (some 19) (by kernel_rfl) (by kernel_rfl) hat10.blk (m := 1) (by kernel_rfl) (At.cell0 hat10 (es_at hx0) rfl) ?_
    have hw15 : IntKind.i64.wrap (x0.free + (tkN xs a n)) = x0.free + (tkN xs a n) := (wrap64_id (by omega) (by omega)).trans (by omega)
    refine OI_static 9 [(2, .int .i64 (tkN xs a n)), (16, .slice (some ⟨b10, o10, none⟩) ((tkX xs a n).length) capu9), (21, .int .i64 (IntKind.i64.wrap (x0.free + (tkN xs a n))))] (by kernel_rfl) ?_
    refine OI_eq [(2, .int .i64 (tkN xs a n)), (16, .slice (some ⟨b10, o10, none⟩) ((tkX xs a n).length) capu9), (21, .int .i64 (x0.free + (tkN xs a n)))] (by rw [hw15]) ?_
    refine OI_pure (some 22) (.indexAddr 64 (.tmp 16) (.const (Value.int IntKind.i64 0))) (by kernel_rfl) (pure_idxN (b := b10) (o := o10) (len := (tkX xs a n).length) (cap := capu9) (kd := .i64) (j := 0) (E := 68) (sz := 2) (by_ := 16) (by kernel_rfl) (by kernel_rfl) (by kernel_rfl) (by omega)) ?_
    refine OI_static 11 [(2, .int .i64 (tkN xs a n)), (21, .int .i64 (x0.free + (tkN xs a n))), (23, .pointer (some ⟨b10, o10 + 0 * 2, none⟩))] (by kernel_rfl) ?_
    refine OI_set (m := 1) (kd := false) 3 (.tmp 23) (.tmp 21) (o10 + 0 * 2) (.int .i64 (x0.free + (tkN xs a n))) [.int .i64 (x0.free + (tkN xs a n))] none (by kernel_rfl) (by kernel_rfl) (by kernel_rfl) (At.blk hat10) (by kernel_rfl) (by kernel_rfl) rfl (by have h1 := At.room hat10; have h2 := At.le hat10; rw [List.length_map] at h2; omega) (by simp [Value.oneCell']) ?_
    intro w16 hn17 hk18 hz19
    have hat20 := At.set (y := (Acc.mk (x0.free + (tkN xs a n)) x0.held : Acc)) (k := 0) hat10 hx0 (by omega) (by simp [Acc.cells, over]) hn17
    have hsz21 := Keep.size hk18
    replace hlu9 := hlu9.keep hk18 (by show ¬ (_ = _); omega)
    have hllt := hlu9.lt
    replace hK0 := Keep.fresh hK0 hk18 (by intro i hi hs; have hs2 : i = b10 := hs; first | (exfalso; omega) | (have h9 := (hAFu9 i ⟨_, rfl, hs2⟩).1; rcases hfr5 i h9 with h9 | h9; exact h9; (exfalso; omega))); have hzhK0 := Keep.size hK0
    replace hGu9 := Grd.keep hGu9 hk18 (fun q hq hs => by have hs : q = b10 := hs; have g0 := own14 q hq; have g1 := hDltu9 q hq; omega)
    have hlhx22 : ((tkX xs a n).set 0 (Acc.mk (x0.free + (tkN xs a n)) x0.held)).length = (tkX xs a n).length := List.length_set
    have hx22 : ((tkX xs a n).set 0 (Acc.mk (x0.free + (tkN xs a n)) x0.held))[0]? = some (Acc.mk (x0.free + (tkN xs a n)) x0.held) := by rw [List.getElem?_set_self (List.getElem?_eq_some_iff.1 hx0).1]
    have ht23 : tot ((tkX xs a n).set 0 (Acc.mk (x0.free + (tkN xs a n)) x0.held)) = tot (tkX xs a n) + ((x0.free + (tkN xs a n)) + x0.held) - (x0.free + x0.held) := tot_set _ hx0
    have hinv23 : Inv ((tkX xs a n).set 0 (Acc.mk (x0.free + (tkN xs a n)) x0.held)) := Inv.set hinvu9 hx0 _ (by show 0 ≤ (x0.free + (tkN xs a n)); omega) (by show 0 ≤ x0.held; omega) (by show tot (tkX xs a n) + ((x0.free + (tkN xs a n)) + x0.held) - (x0.free + x0.held) ≤ 1073741824; omega)
    refine OI_end rfl ?_
    refine X_then ?_
    refine V_seq ?_
    refine V_region ?_
    refine OI_static 2 [(6, .int .i64 (tkN xs a n))] (by kernel_rfl) ?_
    refine OI_end rfl ?_
    refine X_then ?_
    refine V_ret ?_
    exact X_return (.int .i64 (tkN xs a n)) rfl ⟨rfl, ⟨F3, (by rw [show slX xs a n = (tkX xs a n).set 0 (Acc.mk (x0.free + (tkN xs a n)) x0.held) from by unfold slX; rw [if_pos hc8]; unfold addF; rw [setA_at (rfl : (0 : Int) = ((0 : Nat) : Int)), acct_at (rfl : (0 : Int) = ((0 : Nat) : Int)) hx0 (by decide)]]; exact ⟨hinv23, hFlu9, fun q hq => Nat.lt_of_lt_of_le (hFltu9 q hq) (by omega), gu9, _, _, Du9, ⟨by simp only [List.length_set]; exact hlu9, At.slt hat20⟩, hGu9, hAFu9, hDFu9, hADu9⟩), hfr5⟩, hK0⟩
  · skip
    refine V_skip ?_
    refine X_then ?_
    refine V_seq ?_
    refine V_region ?_
    refine OI_static 2 [(6, .int .i64 (tkN xs a n))] (by kernel_rfl) ?_
    refine OI_end rfl ?_
    refine X_then ?_
    refine V_ret ?_
    exact X_return (.int .i64 (tkN xs a n)) rfl ⟨rfl, ⟨F3, by rw [show slX xs a n = tkX xs a n from by unfold slX; rw [if_neg hc8]]; exact ho4, hfr5⟩, hK0⟩
end Go.Al
