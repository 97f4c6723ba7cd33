/-
  Walks of the laws of ledger: what acts keep.
-/
import Derived.Test.YtmflbilhdoiihaaLe15
namespace Go.Al
open Go Go.RowKit Go.Proofs
/-! ### Acts -/
structure Ac4 where
  k : Int
  a : Int
  b : Int
  n : Int
def Ac4.cells (x : Ac4) : List Value := [.int .i64 x.k, .int .i64 x.a, .int .i64 x.b, .int .i64 x.n]
theorem Ac4.len (x : Ac4) : x.cells.length = 4 := rfl
theorem Ac4.one (x : Ac4) : ∀ u ∈ x.cells, u.oneCell' = true := one_all' rfl
theorem lift_Ac4 (x : List Value) (h : Flat [.int .i64, .int .i64, .int .i64, .int .i64] x) : ∃ y : Ac4, y.cells = x := by
  match x, h with
  | [], h => exact h.elim
  | [_], h => exact h.2.elim
  | [_, _], h => exact h.2.2.elim
  | [_, _, _], h => exact h.2.2.2.elim
  | [v1, v2, v3, v4], h =>
    obtain ⟨⟨n1, rfl, _⟩, ⟨n2, rfl, _⟩, ⟨n3, rfl, _⟩, ⟨n4, rfl, _⟩, _⟩ := h
    exact ⟨⟨n1, n2, n3, n4⟩, rfl⟩
  | _ :: _ :: _ :: _ :: _ :: _, h => exact h.2.2.2.2.elim

def msk (fs : List Int) : List Int := fs.map fun x => bAnd x 1048575
theorem msk_at {fs : List Int} {x : Int} (h : x ∈ msk fs) : 0 ≤ x ∧ x ≤ 1048575 := by
  obtain ⟨y, _, rfl⟩ := List.mem_map.1 h
  exact bAnd_le y 1048575 (by decide)
theorem msk_step {fs : List Int} {i : Nat} {x : Int} (h : fs[i]? = some x) : msk (fs.take (i + 1)) = msk (fs.take i) ++ [bAnd x 1048575] := by
  obtain ⟨h1, rfl⟩ := List.getElem?_eq_some_iff.1 h
  unfold msk; rw [List.take_succ_eq_append_getElem h1, List.map_append]; rfl
theorem newX_tot2 {fs : List Int} (h : ∀ x ∈ fs, 0 ≤ x ∧ x ≤ 1048575) : ∀ i : Nat, tot (newX fs i) ≤ i * 1048575
  | 0 => by simp [newX, tot]
  | i + 1 => by
    have ih := newX_tot2 h i
    rw [tot_newX_succ]
    have : (fs[i]?).getD 0 ≤ 1048575 := by
      cases hf : fs[i]? with
      | none => simp
      | some x => exact (h x (List.mem_of_getElem? hf)).2
    omega
theorem msk_ok {fs : List Int} (h : fs.length ≤ 10) : okP (msk fs) :=
  ⟨by simpa [msk] using h, fun x hx => by have := msk_at hx; omega, by have := newX_tot2 (fs := msk fs) (fun x hx => msk_at hx) 10; omega⟩
theorem tot_setA {xs : List Acc} {a : Int} (ha : isA a = true) (hl : xs.length = 10) (y : Acc) : tot (setA xs a y) = tot xs + (y.free + y.held) - ((acct xs a).free + (acct xs a).held) ∧ (setA xs a y).length = 10 ∧ acct (setA xs a y) a = y := by
  have ha : 0 ≤ a ∧ a < 10 := by simpa [isA] using ha
  obtain ⟨j, rfl⟩ : ∃ j : Nat, a = j := ⟨a.toNat, by omega⟩
  have hx : xs[j]? = some (xs[j]'(by omega)) := List.getElem?_eq_getElem (by omega)
  rw [setA_at rfl, acct_in hx (by omega)]
  refine ⟨tot_set y hx, by rw [List.length_set]; exact hl, ?_⟩
  exact acct_in (by rw [List.getElem?_set_self (by omega)]) (by omega)
theorem acct_other {xs : List Acc} {a b : Int} (y : Acc) (ha : isA a = true) (h : a ≠ b) : acct (setA xs a y) b = acct xs b := by
  have ha : 0 ≤ a ∧ a < 10 := by simpa [isA] using ha
  unfold acct setA
  split
  · rw [List.getElem?_set_ne (by omega)]
  · rfl
theorem tot_trans {xs : List Acc} {cs : List Ci} (hi : Inv xs) (a b n : Int) : tot (transX xs cs a b n) = tot xs := by
  unfold transX
  split
  · rename_i h
    obtain ⟨h1, _⟩ := spends_ok hi h.2
    obtain ⟨e1, l1, _⟩ := tot_setA h1 hi.1 (Acc.mk ((acct xs a).free - n) (acct xs a).held)
    obtain ⟨e2, _, _⟩ := tot_setA h.1 l1 (Acc.mk ((acct (subF xs a n) b).free + n) (acct (subF xs a n) b).held)
    unfold addF
    unfold subF at e2 ⊢
    rw [e2, e1]
    simp only []
    omega
  · rfl
theorem tot_res {xs : List Acc} {cs : List Ci} (hi : Inv xs) (a n : Int) : tot (resX xs cs a n) = tot xs := by
  unfold resX
  split
  · rename_i h
    obtain ⟨h1, _⟩ := spends_ok hi h
    obtain ⟨e1, l1, _⟩ := tot_setA h1 hi.1 (Acc.mk ((acct xs a).free - n) (acct xs a).held)
    obtain ⟨e2, _, _⟩ := tot_setA h1 l1 (Acc.mk (acct (subF xs a n) a).free ((acct (subF xs a n) a).held + n))
    unfold addH
    unfold subF at e2 ⊢
    rw [e2, e1]
    simp only []
    omega
  · rfl
theorem tot_burn {xs : List Acc} {cs : List Ci} (hi : Inv xs) (a n : Int) : tot (burnX xs cs a n) = if spendsE xs cs a n = 0 then tot xs - n else tot xs := by
  unfold burnX
  split
  · rename_i h
    obtain ⟨h1, _⟩ := spends_ok hi h
    obtain ⟨e1, _, _⟩ := tot_setA h1 hi.1 (Acc.mk ((acct xs a).free - n) (acct xs a).held)
    unfold subF
    rw [e1]
    simp only []
    omega
  · rfl
theorem mint_ok2 {xs : List Acc} {a n : Int} (h : mintE xs a n = 0) : isA a = true ∧ 0 ≤ n ∧ n ≤ 1073741824 - tot xs := by
  unfold mintE at h
  split at h
  · cases h
  · rename_i h1
    split at h
    · cases h
    · simp only [not_or, Bool.not_eq_false, Classical.not_not] at h1
      exact ⟨h1.1, h1.2.1, by omega⟩
theorem tot_mint {xs : List Acc} (hi : Inv xs) (a n : Int) : tot (mintX xs a n) = if mintE xs a n = 0 then tot xs + n else tot xs := by
  unfold mintX
  split
  · rename_i h
    obtain ⟨e1, _, _⟩ := tot_setA (mint_ok2 h).1 hi.1 (Acc.mk ((acct xs a).free + n) (acct xs a).held)
    unfold addF
    rw [e1]
    simp only []
    omega
  · rfl
theorem tkX_len {xs : List Acc} (hi : Inv xs) (a n : Int) : (tkX xs a n).length = 10 := by
  unfold tkX
  split
  · unfold subH setA; rw [List.length_set]; exact hi.1
  · exact hi.1
theorem tot_rel {xs : List Acc} (hi : Inv xs) (a n : Int) : tot (relX xs a n) = tot xs := by
  have h1 := tkX_tot hi a n
  have h2 := tkN_bnd hi a n
  unfold relX
  split
  · rename_i h
    obtain ⟨e1, _, _⟩ := tot_setA (tkN_pos h) (tkX_len hi a n) (Acc.mk ((acct (tkX xs a n) a).free + tkN xs a n) (acct (tkX xs a n) a).held)
    unfold addF
    rw [e1, h1]
    simp only []
    omega
  · omega
theorem tot_sl {xs : List Acc} (hi : Inv xs) (a n : Int) : tot (slX xs a n) = tot xs := by
  have h1 := tkX_tot hi a n
  have h2 := tkN_bnd hi a n
  unfold slX
  split
  · obtain ⟨e1, _, _⟩ := tot_setA isA0 (tkX_len hi a n) (Acc.mk ((acct (tkX xs a n) 0).free + tkN xs a n) (acct (tkX xs a n) 0).held)
    unfold addF
    rw [e1, h1]
    simp only []
    omega
  · omega

set_option maxRecDepth 10000 in
theorem begin_spec (A : Option Addr) (cap : Nat) (fs : List Int) (w : World) (hA0 : ArgT w 1 intc A cap fs) (h10 : fs.length ≤ 10) : Calls Try.prog 25 #[.slice A fs.length cap] w fun e w' => ∃ l F, e = .returned (.pointer (some ⟨l, 0, none⟩)) ∧ Led F w' l (newX (msk fs) 10) [] ∧ Keep none_ w w' ∧ (∀ q, F q → w.heap.size ≤ q) := by
  have hA := hA0
  have hK0 : Keep none_ w w := Keep.refl _ _
  have hzhK0 := Keep.size hK0
  refine enterV Try.func25 rfl [.slice A fs.length cap] 32 rfl rfl rfl ?_
  refine V_pick [(0, .slice A fs.length cap)] rfl ?_
  refine V_seq ?_
  refine V_region ?_
  refine OI_static 1 [(0, .slice A fs.length cap)] (by kernel_rfl) ?_
  refine OI_end rfl ?_
  refine X_then ?_
  refine V_seq ?_
  refine V_seq ?_
  refine V_region ?_
  refine OI_static 3 [(0, .slice A fs.length cap), (9, .bool (decide (((fs.length : Nat) : Int) > 10)))] (by kernel_rfl) ?_
  refine OI_end rfl ?_
  refine X_then ?_
  refine V_if (((fs.length : Nat) : Int) > 10) (by kernel_rfl) (fun hc1 => ?_) (fun hc1 => ?_)
  · skip
    exact (by omega : False).elim
  · skip
    refine V_skip ?_
    refine X_then ?_
    refine V_seq ?_
    refine V_region ?_
    refine OI_static 1 [(0, .slice A fs.length cap), (3, .slice none 0 0)] (by kernel_rfl) ?_
    refine OI_end rfl ?_
    refine X_then ?_
    refine V_seq ?_
    refine V_seq ?_
    refine V_region ?_
    refine OI_static 1 [(0, .slice A fs.length cap), (3, .slice none 0 0), (4, .int .i64 0)] (by kernel_rfl) ?_
    refine OI_end rfl ?_
    refine X_then ?_
    refine V_block ?_
    refine V_pick [(0, .slice A fs.length cap), (3, .slice none 0 0), (4, .int .i64 0)] rfl ?_
    refine V_loop (fun k wI e => ∃ i : Nat, ∃ A2 : Option Addr, ∃ cap2 : Nat, ∃ ms : List Int, (k + i = fs.length) ∧ (ms = msk (fs.take i)) ∧ (SlT wI 1 intc A2 cap2 ms) ∧ (∀ q, inA A2 q → w.heap.size ≤ q) ∧ Keep none_ w wI ∧ e = [(0, .slice A fs.length cap), (3, .slice A2 ms.length cap2), (4, .int .i64 ((i : Nat) : Int))]) fs.length ⟨0, none, 0, [], by omega, rfl, SlT.nil _ _ _, fun q h => (inA_none h).elim, Keep.refl _ _, rfl⟩ ?_
    rintro k3 w2 _ ⟨i, A2, cap2, ms, hki, hms, hA2, ow2, hk4, rfl⟩
    have hsz5 := Keep.size hk4
    replace hA := ArgT.keep0 hA hk4
    replace hK0 := Keep.tr hK0 (Keep.ofNone hk4); have hzhK0 := Keep.size hK0
    have hzhk4 := Keep.size hk4
    have lt2 := SlT.lt hA2
    have hml : ms.length = i := by rw [hms]; simp [msk]; omega
    refine V_seq ?_
    refine V_seq ?_
    refine V_region ?_
    refine OI_static 4 [(0, .slice A fs.length cap), (3, .slice A2 ms.length cap2), (4, .int .i64 ((i : Nat) : Int)), (13, .bool (decide (((i : Nat) : Int) < ((fs.length : Nat) : Int))))] (by kernel_rfl) ?_
    refine OI_end rfl ?_
    refine X_then ?_
    refine V_if (((i : Nat) : Int) < ((fs.length : Nat) : Int)) (by kernel_rfl) (fun hc6 => ?_) (fun hc6 => ?_)
    · skip
      refine V_skip ?_
      refine X_then ?_
      refine V_seq ?_
      refine V_block ?_
      refine V_region ?_
      refine OI_static 3 [(0, .slice A fs.length cap), (4, .int .i64 ((i : Nat) : Int)), (16, .slice A2 ms.length cap2), (17, .slice A fs.length cap), (18, .int .i64 ((i : Nat) : Int))] (by kernel_rfl) ?_
      obtain ⟨b7, o7, L7, rfl, hat7⟩ := ArgT.open_ hA (by first | omega | (simp only [List.length_map]; omega) | (simp; done) | (simp; omega))
      have hb7lt0 := ArgT.lt hA0 (by first | omega | (simp only [List.length_map]; omega) | (simp; done) | (simp; omega))
      have hb7lt := hat7.blk.lt
      refine OI_pure (some 19) (.indexAddr 26 (.tmp 17) (.tmp 18)) (by kernel_rfl) (pure_idxN (b := b7) (o := o7) (len := fs.length) (cap := cap) (kd := .i64) (j := i) (E := 3) (sz := 1) (by_ := 8) (by kernel_rfl) (by kernel_rfl) (by kernel_rfl) (by omega)) ?_
      obtain ⟨x8, hx9⟩ : ∃ x, fs[i]? = some x := ⟨_, List.getElem?_eq_getElem (by first | omega | (simp only [List.length_map]; omega))⟩
      refine OI_cellR 3 (.tmp 19) (o7 + i * 1) (.int .i64 x8) (some 20) (by kernel_rfl) (by kernel_rfl) hat7.blk (m := 1) (by kernel_rfl) (AtR.cell0 hat7 (es_at hx9) rfl) ?_
      refine OI_static 6 [(0, .slice (some ⟨b7, o7, none⟩) fs.length cap), (4, .int .i64 ((i : Nat) : Int)), (16, .slice A2 ms.length cap2), (21, .int .i64 (bAnd x8 1048575))] (by kernel_rfl) ?_
      refine OI_slit (E := 3) (zv := .int .i64 0) (sz := 1) (by_ := 8) 26 1 #[(0, (Operand.tmp 21))] [.int .i64 (bAnd x8 1048575)] [.int .i64 (bAnd x8 1048575)] (some 22) (by kernel_rfl) (by kernel_rfl) (by kernel_rfl) (by omega) rfl (by omega) (by intro v hv; simp only [List.mem_cons, List.not_mem_nil, or_false] at hv; rcases hv with rfl <;> rfl) (by kernel_rfl) rfl ?_
      intro b10 w10 e10 hb10 k10 z10
      have hsz11 := Keep.size k10
      replace hat7 := hat7.keep k10 (fun f => f)
      have hb7lt := hat7.blk.lt
      replace hA2 := SlT.keep0 hA2 k10
      replace hK0 := Keep.tr hK0 (Keep.ofNone k10); have hzhK0 := Keep.size hK0
      replace hk4 := Keep.tr hk4 (Keep.ofNone k10); have hzhk4 := Keep.size hk4
      have hb10lt := hb10.lt
      refine OI_append (t := 26) (at2 := 26) (E := 3) (E2 := 3) (sz := 1) (by_ := 8) (zv := .int .i64 0) (m := ms.length) (k := 1) (.tmp 16) (.tmp 22) (.slice A2 ms.length cap2) (.slice (some ⟨b10, 0, none⟩) 1 1) (some 23) (by kernel_rfl) (by kernel_rfl) (by kernel_rfl) (by kernel_rfl) (by kernel_rfl) (by kernel_rfl) (by kernel_rfl) (SlT.slr hA2) (slr_one hb10 (intc_len (bAnd x8 1048575))) (intc_one (bAnd x8 1048575)) (by first | omega | (simp only [List.length_nil]; omega)) (by omega) (by first | omega | (simp only [List.length_nil]; omega)) (by omega) ?_
      intro vv9 w12 hap
      obtain ⟨A12, cap12, rfl, hA12, hk12, own12x⟩ := app_one (f := intc) (xs := ms) (x := (bAnd x8 1048575)) (A := A2) (cap := cap2) hap (fun x _ => intc_len x) (intc_len _)
      have own12 : ∀ q, inA A12 q → w.heap.size ≤ q := fun q hq => by rcases own12x q hq with h | h; exact ow2 q h; (show w.heap.size ≤ q; omega)
      have hsz13 := Keep.size hk12
      replace hat7 := hat7.keep hk12 (fun hs => by have h1 := ow2 _ hs; have h2 := lt2 _ hs; omega)
      have hb7lt := hat7.blk.lt
      replace hK0 := Keep.fresh hK0 hk12 (by intro i hi hs; first | exact hs | (exfalso; have h1 := ow2 i hs; have h2 := lt2 i hs; omega) | (have h1 := ow2 i hs; have h2 := lt2 i hs; show _ ∨ _; omega)); have hzhK0 := Keep.size hK0
      replace hk4 := Keep.fresh hk4 hk12 (by intro i hi hs; first | exact hs | (exfalso; have h1 := ow2 i hs; have h2 := lt2 i hs; omega) | (have h1 := ow2 i hs; have h2 := lt2 i hs; show _ ∨ _; omega)); have hzhk4 := Keep.size hk4
      have lt12 := SlT.lt hA12
      refine OI_static 9 [(0, .slice (some ⟨b7, o7, none⟩) fs.length cap), (3, .slice A12 ((ms ++ [bAnd x8 1048575]).length) cap12), (4, .int .i64 ((i : Nat) : Int))] (by kernel_rfl) ?_
      refine OI_end rfl ?_
      refine X_block ?_
      refine X_then ?_
      refine V_region ?_
      have hw14 : IntKind.i64.wrap (((i : Nat) : Int) + 1) = ((i + 1 : Nat) : Int) := (wrap64_id (by omega) (by omega)).trans (by omega)
      refine OI_static 2 [(0, .slice (some ⟨b7, o7, none⟩) fs.length cap), (3, .slice A12 ((ms ++ [bAnd x8 1048575]).length) cap12), (15, .int .i64 (IntKind.i64.wrap (((i : Nat) : Int) + 1)))] (by kernel_rfl) ?_
      refine OI_eq [(0, .slice (some ⟨b7, o7, none⟩) fs.length cap), (3, .slice A12 ((ms ++ [bAnd x8 1048575]).length) cap12), (15, .int .i64 ((i + 1 : Nat) : Int))] (by rw [hw14]) ?_
      refine OI_static 3 [(0, .slice (some ⟨b7, o7, none⟩) fs.length cap), (3, .slice A12 ((ms ++ [bAnd x8 1048575]).length) cap12), (4, .int .i64 ((i + 1 : Nat) : Int))] (by kernel_rfl) ?_
      refine OI_end rfl ?_
      exact V_again (k3 - 1) (by omega) [(0, .slice (some ⟨b7, o7, none⟩) fs.length cap), (3, .slice A12 ((ms ++ [bAnd x8 1048575]).length) cap12), (4, .int .i64 ((i + 1 : Nat) : Int))] rfl ⟨i + 1, A12, cap12, ms ++ [bAnd x8 1048575], by omega, by rw [msk_step hx9, ← hms], hA12, own12, hk4, rfl⟩
    · skip
      obtain rfl : i = fs.length := by omega
      rw [List.take_length] at hms
      have hmk := msk_ok (fs := fs) (by omega)
      rw [← hms] at hmk
      refine V_exit ?_
      refine X_exit_then ?_
      refine X_exit_then ?_
      refine X_exit_here ?_
      refine X_then ?_
      refine V_seq ?_
      refine V_region ?_
      refine OI_static 1 [(25, .slice A2 ms.length cap2)] (by kernel_rfl) ?_
      refine OI_call { callee := (Callee.value (Operand.func 14)), args := #[(Operand.tmp 25)], argTypes := #[26] } 14 #[.slice A2 ms.length cap2] (some 26) (by kernel_rfl) (by kernel_rfl) (by kernel_rfl) (new_ok A2 cap2 ms _ (SlT.arg hA2) (by omega) hmk) ?_
      rintro _ w15 ⟨l17, F18, rfl, ho19, hk16, hge20⟩
      refine ⟨_, rfl, ?_⟩
      have hsz21 := Keep.size hk16
      replace hA := ArgT.keep0 hA hk16
      replace hA2 := SlT.keep0 hA2 hk16
      replace hK0 := Keep.tr hK0 (Keep.ofNone hk16); have hzhK0 := Keep.size hK0
      have own22 : ∀ q, F18 q → w2.heap.size ≤ q := fun q hq => by have h1 := hge20 q hq; omega
      have lt23 := Led.lt ho19
      have dis24 : ∀ q, F18 q → ¬ inA A2 q := fun q h1 h2 => by have h3 := hge20 q h1; have h4 := lt2 q h2; omega
      have hl17lt : l17 < w15.heap.size := Led.lt ho19 _ (Led.at_ ho19)
      have hl17ge := hge20 _ (Led.at_ ho19)
      rw [hms] at ho19
      refine OI_static 7 [(5, .pointer (some ⟨l17, 0, none⟩)), (6, .int .i64 0)] (by kernel_rfl) ?_
      refine OI_end rfl ?_
      refine X_then ?_
      refine V_seq ?_
      refine V_seq ?_
      refine V_region ?_
      refine OI_static 2 [(5, .pointer (some ⟨l17, 0, none⟩)), (30, .bool false)] (by kernel_rfl) ?_
      refine OI_end rfl ?_
      refine X_then ?_
      refine V_false rfl ?_
      refine V_skip ?_
      refine X_then ?_
      refine V_seq ?_
      refine V_region ?_
      refine OI_static 2 [(2, .pointer (some ⟨l17, 0, none⟩))] (by kernel_rfl) ?_
      refine OI_end rfl ?_
      refine X_then ?_
      refine V_ret ?_
      exact X_return _ rfl ⟨l17, F18, rfl, ho19, hK0, fun q hq => by have h1 := own22 q hq; omega⟩
end Go.Al
