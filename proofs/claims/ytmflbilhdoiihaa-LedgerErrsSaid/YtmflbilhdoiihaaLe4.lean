/-
  Walks of package ledger: what changes it.
-/
import Derived.Test.YtmflbilhdoiihaaLe3
namespace Go.Al
open Go Go.RowKit Go.Proofs
/-! ### What changes a ledger -/
def setA (xs : List Acc) (a : Int) (y : Acc) : List Acc := xs.set a.toNat y
def subF (xs : List Acc) (a n : Int) : List Acc := setA xs a (Acc.mk ((acct xs a).free - n) (acct xs a).held)
def addF (xs : List Acc) (a n : Int) : List Acc := setA xs a (Acc.mk ((acct xs a).free + n) (acct xs a).held)
def subH (xs : List Acc) (a n : Int) : List Acc := setA xs a (Acc.mk (acct xs a).free ((acct xs a).held - n))
def addH (xs : List Acc) (a n : Int) : List Acc := setA xs a (Acc.mk (acct xs a).free ((acct xs a).held + n))
theorem setA_at {xs : List Acc} {a : Int} {j : Nat} (ha : a = j) (y : Acc) : setA xs a y = xs.set j y := by subst ha; rfl
theorem acct_at {xs : List Acc} {a : Int} {j : Nat} {x : Acc} (ha : a = j) (hx : xs[j]? = some x) (hj : j < 10) : acct xs a = x := by subst ha; exact acct_in hx hj
theorem Inv.set {xs : List Acc} (h : Inv xs) {j : Nat} {x : Acc} (hx : xs[j]? = some x) (y : Acc) (h1 : 0 ≤ y.free) (h2 : 0 ≤ y.held) (h3 : tot xs + (y.free + y.held) - (x.free + x.held) ≤ 1073741824) : Inv (xs.set j y) := by
  refine ⟨by rw [List.length_set]; exact h.1, fun z hz => ?_, by rw [tot_set y hx]; exact h3⟩
  rcases List.mem_or_eq_of_mem_set hz with hz | rfl
  · exact h.2.1 z hz
  · exact ⟨h1, h2⟩
theorem spends_ok {xs : List Acc} {cs : List Ci} {a n : Int} (hi : Inv xs) (h : spendsE xs cs a n = 0) : isA a = true ∧ 0 ≤ n ∧ n ≤ 1073741824 ∧ n ≤ (acct xs a).free ∧ (n > 0 → lockedL cs a ≤ (acct xs a).free - n) := by
  unfold spendsE at h
  split at h
  · cases h
  · rename_i h1
    split at h
    · cases h
    · rename_i h2
      split at h
      · cases h
      · rename_i h3
        simp only [not_or, Bool.not_eq_false, Classical.not_not] at h1
        refine ⟨h1.1, h1.2.1, h1.2.2, by omega, fun h4 => ?_⟩
        have : ¬ ((acct xs a).free - n < lockedL cs a) := fun h5 => h3 ⟨h4, h5⟩
        omega
def transE (xs : List Acc) (cs : List Ci) (a b n : Int) : Int := if isA b = false then 1 else if spendsE xs cs a n = 7 ∧ a = b then 0 else spendsE xs cs a n
def transX (xs : List Acc) (cs : List Ci) (a b n : Int) : List Acc := if isA b = true ∧ spendsE xs cs a n = 0 then addF (subF xs a n) b n else xs
def resX (xs : List Acc) (cs : List Ci) (a n : Int) : List Acc := if spendsE xs cs a n = 0 then addH (subF xs a n) a n else xs
def burnX (xs : List Acc) (cs : List Ci) (a n : Int) : List Acc := if spendsE xs cs a n = 0 then subF xs a n else xs
def mintE (xs : List Acc) (a n : Int) : Int := if isA a = false ∨ ¬ (0 ≤ n ∧ n ≤ 1073741824) then 1 else if n > 1073741824 - tot xs then 10 else 0
def mintX (xs : List Acc) (a n : Int) : List Acc := if mintE xs a n = 0 then addF xs a n else xs
def imin (a b : Int) : Int := if b < a then b else a
def imax (a b : Int) : Int := if b > a then b else a
def tkN (xs : List Acc) (a n : Int) : Int := if isA a = true then imax (imin n (acct xs a).held) 0 else 0
def tkX (xs : List Acc) (a n : Int) : List Acc := if isA a = true then subH xs a (tkN xs a n) else xs
def relX (xs : List Acc) (a n : Int) : List Acc := if tkN xs a n > 0 then addF (tkX xs a n) a (tkN xs a n) else tkX xs a n
def slX (xs : List Acc) (a n : Int) : List Acc := if tkN xs a n > 0 then addF (tkX xs a n) 0 (tkN xs a n) else tkX xs a n
def lockC (cs : List Ci) (a i n : Int) : List Ci := if isA a = true then (if n ≤ 0 ∨ n > 1073741824 then delC a i cs else setC a i n cs) else cs
theorem tk_bnd {h n : Int} (hh : 0 ≤ h) : 0 ≤ imax (imin n h) 0 ∧ imax (imin n h) 0 ≤ h := by unfold imax imin; split <;> split <;> omega
theorem tkN_bnd {xs : List Acc} (h : Inv xs) (a n : Int) : 0 ≤ tkN xs a n ∧ tkN xs a n ≤ (acct xs a).held := by
  have hb := acct_bnd h a
  unfold tkN
  split
  · exact tk_bnd hb.2.1
  · omega

theorem transfer_spec (F : Nat → Prop) (l : Nat) (xs : List Acc) (cs : List Ci) (a b n : Int) (w : World) (h : Led F w l xs cs) : Calls Try.prog 17 #[.pointer (some ⟨l, 0, none⟩), .int .i64 a, .int .i64 b, .int .i64 n] w fun e w' => e = .returned (.int .i64 (transE xs cs a b n)) ∧ (∃ F', Led F' w' l (transX xs cs a b n) (cs) ∧ (∀ q, F' q → F q ∨ w.heap.size ≤ q)) ∧ Keep F w w' := by
  have hFlt := Led.lt h
  have hllt := hFlt _ (Led.at_ h)
  have hinv := Led.inv h
  have hK0 : Keep F w w := Keep.refl _ _
  have hzhK0 := Keep.size hK0
  refine enterV Try.func17 rfl [.pointer (some ⟨l, 0, none⟩), .int .i64 a, .int .i64 b, .int .i64 n] 58 rfl rfl rfl ?_
  refine V_pick [(0, .pointer (some ⟨l, 0, none⟩)), (1, .int .i64 a), (2, .int .i64 b), (3, .int .i64 n)] rfl ?_
  refine V_seq ?_
  refine V_region ?_
  refine OI_static 1 [(0, .pointer (some ⟨l, 0, none⟩)), (1, .int .i64 a), (2, .int .i64 b), (3, .int .i64 n)] (by kernel_rfl) ?_
  refine OI_end rfl ?_
  refine X_then ?_
  refine V_seq ?_
  refine V_region ?_
  refine OI_static 3 [(0, .pointer (some ⟨l, 0, none⟩)), (1, .int .i64 a), (2, .int .i64 b), (3, .int .i64 n), (12, .pointer (some ⟨l, 0, none⟩)), (13, .int .i64 a), (14, .int .i64 n)] (by kernel_rfl) ?_
  refine OI_call { callee := (Callee.value (Operand.func 38)), args := #[(Operand.tmp 12), (Operand.tmp 13), (Operand.tmp 14)], argTypes := #[22, 3, 3] } 38 #[.pointer (some ⟨l, 0, none⟩), .int .i64 a, .int .i64 n] (some 15) (by kernel_rfl) (by kernel_rfl) (by kernel_rfl) (spends_spec F l xs cs a n _ h) ?_
  rintro _ w1 ⟨rfl, hk2⟩
  refine ⟨_, rfl, ?_⟩
  have hsz3 := Keep.size hk2
  replace h := Led.keep h hk2 (fun _ _ f => f)
  replace hK0 := Keep.tr hK0 (Keep.ofNone hk2); have hzhK0 := Keep.size hK0
  refine OI_static 5 [(0, .pointer (some ⟨l, 0, none⟩)), (1, .int .i64 a), (2, .int .i64 b), (3, .int .i64 n), (9, .int .i64 (spendsE xs cs a n))] (by kernel_rfl) ?_
  refine OI_end rfl ?_
  refine X_then ?_
  refine V_seq ?_
  refine V_seq ?_
  refine V_region ?_
  refine OI_static 2 [(0, .pointer (some ⟨l, 0, none⟩)), (1, .int .i64 a), (2, .int .i64 b), (3, .int .i64 n), (9, .int .i64 (spendsE xs cs a n)), (17, .pointer (some ⟨l, 0, none⟩)), (18, .int .i64 b)] (by kernel_rfl) ?_
  refine OI_call { callee := (Callee.value (Operand.func 34)), args := #[(Operand.tmp 17), (Operand.tmp 18)], argTypes := #[22, 3] } 34 #[.pointer (some ⟨l, 0, none⟩), .int .i64 b] (some 19) (by kernel_rfl) (by kernel_rfl) (by kernel_rfl) (account_spec F l xs cs b _ h) ?_
  rintro _ w10 ⟨rfl, hk11⟩
  refine ⟨_, rfl, ?_⟩
  have hsz12 := Keep.size hk11
  replace h := Led.keep h hk11 (fun _ _ f => f)
  replace hK0 := Keep.tr hK0 (Keep.ofNone hk11); have hzhK0 := Keep.size hK0
  refine OI_static 6 [(0, .pointer (some ⟨l, 0, none⟩)), (1, .int .i64 a), (2, .int .i64 b), (3, .int .i64 n), (9, .int .i64 (spendsE xs cs a n)), (20, .agg (Acc.cells (acct xs b)).toArray), (21, .bool (isA b))] (by kernel_rfl) ?_
  refine OI_alloc 68 (.agg #[.int .i64 0, .int .i64 0]) [.int .i64 0, .int .i64 0] (some 10) (by kernel_rfl) (by kernel_rfl) (by kernel_rfl) ?_
  intro b13 w13 e13 hb13 k13 z13
  have hsz14 := Keep.size k13
  replace h := Led.keep h k13 (fun _ _ f => f)
  replace hK0 := Keep.tr hK0 (Keep.ofNone k13); have hzhK0 := Keep.size hK0
  have hb13lt := hb13.lt
  refine OI_set (m := 2) (kd := true) 68 (.tmp 10) (.tmp 20) 0 (.agg (Acc.cells (acct xs b)).toArray) (Acc.cells (acct xs b)) none (by kernel_rfl) (by kernel_rfl) (by kernel_rfl) hb13 (by kernel_rfl) rfl (Acc.len _) (Nat.le_of_ble_eq_true (by kernel_rfl)) (Acc.one _) ?_
  intro w15 hb13_18 hk16 hz17
  replace hb13_18 : Blk w15 b13 (Acc.cells (acct xs b)) 68 := (by rwa [over_whole (by rw [Acc.len]; rfl)] at hb13_18)
  have hsz19 := Keep.size hk16
  replace h := Led.keep h hk16 (fun q hq hs => by have hs : q = b13 := hs; have g1 := hFlt q hq; omega)
  replace hK0 := Keep.fresh hK0 hk16 (by intro i hi hs; have hs2 : i = b13 := hs; exfalso; omega); have hzhK0 := Keep.size hK0
  refine OI_static 9 [(0, .pointer (some ⟨l, 0, none⟩)), (1, .int .i64 a), (2, .int .i64 b), (3, .int .i64 n), (9, .int .i64 (spendsE xs cs a n)), (11, .bool (isA b))] (by kernel_rfl) ?_
  refine OI_end rfl ?_
  refine X_then ?_
  refine V_seq ?_
  refine V_region ?_
  refine OI_static 2 [(0, .pointer (some ⟨l, 0, none⟩)), (1, .int .i64 a), (2, .int .i64 b), (3, .int .i64 n), (9, .int .i64 (spendsE xs cs a n)), (23, .bool (!(isA b)))] (by kernel_rfl) ?_
  refine OI_end rfl ?_
  refine X_then ?_
  refine V_ifb (!(isA b)) (by kernel_rfl) (fun hc20 => ?_) (fun hc20 => ?_)
  · skip
    refine V_region ?_
    refine OI_static 1 [(0, .pointer (some ⟨l, 0, none⟩)), (1, .int .i64 a), (2, .int .i64 b), (3, .int .i64 n), (9, .int .i64 1)] (by kernel_rfl) ?_
    refine OI_end rfl ?_
    refine X_then ?_
    refine V_seq ?_
    refine V_seq ?_
    refine V_region ?_
    refine OI_static 7 [(0, .pointer (some ⟨l, 0, none⟩)), (1, .int .i64 a), (2, .int .i64 b), (3, .int .i64 n), (9, .int .i64 1), (30, .bool false)] (by kernel_rfl) ?_
    refine OI_end rfl ?_
    refine X_then ?_
    refine V_false rfl ?_
    refine V_skip ?_
    refine X_then ?_
    refine V_seq ?_
    refine V_seq ?_
    refine V_region ?_
    refine OI_static 2 [(0, .pointer (some ⟨l, 0, none⟩)), (1, .int .i64 a), (2, .int .i64 b), (3, .int .i64 n), (9, .int .i64 1), (32, .bool false)] (by kernel_rfl) ?_
    refine OI_end rfl ?_
    refine X_then ?_
    refine V_false rfl ?_
    refine V_skip ?_
    refine X_then ?_
    refine V_seq ?_
    refine V_region ?_
    refine OI_static 2 [(8, .int .i64 1)] (by kernel_rfl) ?_
    refine OI_end rfl ?_
    refine X_then ?_
    refine V_ret ?_
    exact X_return (.int .i64 1) rfl ⟨by unfold transE; simp_all, ⟨F, by rw [show transX xs cs a b n = xs from by unfold transX; simp_all]; exact h, fun q h => .inl h⟩, hK0⟩
  · skip
    refine V_skip ?_
    refine X_then ?_
    refine V_seq ?_
    refine V_seq ?_
    refine V_region ?_
    refine OI_static 3 [(0, .pointer (some ⟨l, 0, none⟩)), (1, .int .i64 a), (2, .int .i64 b), (3, .int .i64 n), (9, .int .i64 (spendsE xs cs a n)), (26, .bool (decide (spendsE xs cs a n = 7)))] (by kernel_rfl) ?_
    by_cases hg21 : spendsE xs cs a n = 7
    · skip
      refine OI_eq [(0, .pointer (some ⟨l, 0, none⟩)), (1, .int .i64 a), (2, .int .i64 b), (3, .int .i64 n), (9, .int .i64 (spendsE xs cs a n)), (26, .bool true)] (by first | simp [hg21] | rfl) ?_
      refine OI_static 7 [(0, .pointer (some ⟨l, 0, none⟩)), (1, .int .i64 a), (2, .int .i64 b), (3, .int .i64 n), (9, .int .i64 (spendsE xs cs a n)), (30, .bool (decide (a = b)))] (by kernel_rfl) ?_
      refine OI_end rfl ?_
      refine X_then ?_
      refine V_if (a = b) (by kernel_rfl) (fun hc22 => ?_) (fun hc22 => ?_)
      · skip
        refine V_seq ?_
        refine V_region ?_
        refine OI_static 1 [(8, .int .i64 0)] (by kernel_rfl) ?_
        refine OI_end rfl ?_
        refine X_then ?_
        refine V_ret ?_
        refine X_ret_then ?_
        exact X_return (.int .i64 0) rfl ⟨by unfold transE; simp_all, ⟨F, by rw [show transX xs cs a b n = xs from by unfold transX; simp_all]; exact h, fun q h => .inl h⟩, hK0⟩
      · skip
        refine V_skip ?_
        refine X_then ?_
        refine V_seq ?_
        refine V_seq ?_
        refine V_region ?_
        refine OI_static 2 [(0, .pointer (some ⟨l, 0, none⟩)), (1, .int .i64 a), (2, .int .i64 b), (3, .int .i64 n), (9, .int .i64 (spendsE xs cs a n)), (32, .bool (decide (spendsE xs cs a n = 0)))] (by kernel_rfl) ?_
        refine OI_end rfl ?_
        refine X_then ?_
        refine V_if (spendsE xs cs a n = 0) (by kernel_rfl) (fun hc23 => ?_) (fun hc23 => ?_)
        · skip
          exact (by omega : False).elim
        · skip
          refine V_skip ?_
          refine X_then ?_
          refine V_seq ?_
          refine V_region ?_
          refine OI_static 2 [(8, .int .i64 (spendsE xs cs a n))] (by kernel_rfl) ?_
          refine OI_end rfl ?_
          refine X_then ?_
          refine V_ret ?_
          exact X_return (.int .i64 (spendsE xs cs a n)) rfl ⟨by unfold transE; simp_all, ⟨F, by rw [show transX xs cs a b n = xs from by unfold transX; simp_all]; exact h, fun q h => .inl h⟩, hK0⟩
    · skip
      refine OI_eq [(0, .pointer (some ⟨l, 0, none⟩)), (1, .int .i64 a), (2, .int .i64 b), (3, .int .i64 n), (9, .int .i64 (spendsE xs cs a n)), (26, .bool false)] (by first | simp [hg21] | rfl) ?_
      refine OI_static 7 [(0, .pointer (some ⟨l, 0, none⟩)), (1, .int .i64 a), (2, .int .i64 b), (3, .int .i64 n), (9, .int .i64 (spendsE xs cs a n)), (30, .bool false)] (by kernel_rfl) ?_
      refine OI_end rfl ?_
      refine X_then ?_
      refine V_false rfl ?_
      refine V_skip ?_
      refine X_then ?_
      refine V_seq ?_
      refine V_seq ?_
      refine V_region ?_
      refine OI_static 2 [(0, .pointer (some ⟨l, 0, none⟩)), (1, .int .i64 a), (2, .int .i64 b), (3, .int .i64 n), (9, .int .i64 (spendsE xs cs a n)), (32, .bool (decide (spendsE xs cs a n = 0)))] (by kernel_rfl) ?_
      refine OI_end rfl ?_
      refine X_then ?_
      refine V_if (spendsE xs cs a n = 0) (by kernel_rfl) (fun hc24 => ?_) (fun hc24 => ?_)
      · skip
        obtain ⟨hsa, hn1, hn2, hn3, hn4⟩ := spends_ok hinv hc24
        obtain ⟨hinvu25, hFlu25, hFltu25, gu25, Au25, capu25, Du25, hatu25, hGu25, hAFu25, hDFu25, hADu25⟩ := h
        have hlu25 := hatu25.blk
        have hAu25 := hatu25.sl
        have hlku25 := hlu25.lt
        have hAlu25 := fun q hq => And.intro (hAFu25 q hq).2 (hFlt q (hAFu25 q hq).1)
        have hAltu25 := SlT.lt hAu25
        have hDlu25 := fun q hq => And.intro (hDFu25 q hq).2 (hFlt q (hDFu25 q hq).1)
        have hDltu25 := Grd.lt hGu25
        have hx10u25 := hinvu25.1
        have htotu25 := hinvu25.2.2
        have hgu25lt := hDltu25 _ (Grd.at_ hGu25)
        obtain ⟨j26, hj26, hjl26⟩ : ∃ j : Nat, a = j ∧ j < 10 := ⟨(a).toNat, by have h9 := hsa; simp only [isA, decide_eq_true_eq] at h9; omega, by have h9 := hsa; simp only [isA, decide_eq_true_eq] at h9; omega⟩
        obtain ⟨j27, hj27, hjl27⟩ : ∃ j : Nat, b = j ∧ j < 10 := ⟨(b).toNat, by have h9 := (by simpa using hc20); simp only [isA, decide_eq_true_eq] at h9; omega, by have h9 := (by simpa using hc20); simp only [isA, decide_eq_true_eq] at h9; omega⟩
        obtain ⟨x0, hx0⟩ : ∃ x, xs[j26]? = some x := ⟨_, List.getElem?_eq_getElem (by omega)⟩
        have hxa := acct_at hj26 hx0 hjl26
        rw [hxa] at hn3 hn4
        obtain ⟨hbf0, hbh0, hbt0, _⟩ := hinv.at_ hx0
        refine V_seq ?_
        refine V_region ?_
        refine OI_static 3 [(0, .pointer (some ⟨l, 0, none⟩)), (1, .int .i64 a), (2, .int .i64 b), (3, .int .i64 n), (9, .int .i64 (spendsE xs cs a n)), (35, .pointer (some ⟨l, 0, none⟩))] (by kernel_rfl) ?_
        refine OI_cell 64 (.tmp 35) 0 (.slice Au25 xs.length capu25) (some 36) (by kernel_rfl) (by kernel_rfl) hlu25 (m := 1) (by kernel_rfl) rfl ?_
        refine OI_static 5 [(0, .pointer (some ⟨l, 0, none⟩)), (2, .int .i64 b), (3, .int .i64 n), (9, .int .i64 (spendsE xs cs a n)), (36, .slice Au25 xs.length capu25), (37, .int .i64 a)] (by kernel_rfl) ?_
        obtain ⟨b28, o28, L28, T28, rfl, hat28⟩ := SlT.open_ hAu25 (by first | omega | (simp only [List.length_map]; omega) | (simp; done) | (simp; omega))
        have hb28lt := hat28.blk.lt
        have hob29 := hAlu25 b28 ⟨_, rfl, rfl⟩
        have hob30 := hAltu25 b28 ⟨_, rfl, rfl⟩
        have hne31 : ∀ q, Du25 q → q ≠ b28 := fun q hq hs => (fun q h1 h2 => hADu25 q h2 h1) q hq ⟨_, rfl, hs⟩
        have own32 := fun q hq => And.intro (hDlu25 q hq) (hne31 q hq)
        refine OI_pick [(0, .pointer (some ⟨l, 0, none⟩)), (2, .int .i64 b), (3, .int .i64 n), (9, .int .i64 (spendsE xs cs a n)), (36, .slice (some ⟨b28, o28, none⟩) xs.length capu25), (37, .int .i64 a)] (by kernel_rfl) ?_
        refine OI_eq [(0, .pointer (some ⟨l, 0, none⟩)), (2, .int .i64 b), (3, .int .i64 n), (9, .int .i64 (spendsE xs cs a n)), (36, .slice (some ⟨b28, o28, none⟩) xs.length capu25), (37, .int .i64 ((j26 : Nat) : Int))] (by rw [hj26]) ?_
        refine OI_pure (some 38) (.indexAddr 64 (.tmp 36) (.tmp 37)) (by kernel_rfl) (pure_idxN (b := b28) (o := o28) (len := xs.length) (cap := capu25) (kd := .i64) (j := j26) (E := 68) (sz := 2) (by_ := 16) (by kernel_rfl) (by kernel_rfl) (by kernel_rfl) (by omega)) ?_
        refine OI_static 7 [(0, .pointer (some ⟨l, 0, none⟩)), (2, .int .i64 b), (3, .int .i64 n), (9, .int .i64 (spendsE xs cs a n)), (36, .slice (some ⟨b28, o28, none⟩) xs.length capu25), (37, .int .i64 ((j26 : Nat) : Int)), (39, .pointer (some ⟨b28, o28 + j26 * 2, none⟩))] (by kernel_rfl) ?_
        refine OI_cell 3 (.tmp 39) (o28 + j26 * 2) (.int .i64 x0.free) (some 40) (by kernel_rfl) (by kernel_rfl) hat28.blk (m := 1) (by kernel_rfl) (At.cell0 hat28 (es_at hx0) rfl) ?_
        have hw33 : IntKind.i64.wrap (x0.free - n) = x0.free - n := (wrap64_id (by omega) (by omega)).trans (by omega)
        refine OI_static 10 [(0, .pointer (some ⟨l, 0, none⟩)), (2, .int .i64 b), (3, .int .i64 n), (9, .int .i64 (spendsE xs cs a n)), (36, .slice (some ⟨b28, o28, none⟩) xs.length capu25), (37, .int .i64 ((j26 : Nat) : Int)), (42, .int .i64 (IntKind.i64.wrap (x0.free - n)))] (by kernel_rfl) ?_
        refine OI_eq [(0, .pointer (some ⟨l, 0, none⟩)), (2, .int .i64 b), (3, .int .i64 n), (9, .int .i64 (spendsE xs cs a n)), (36, .slice (some ⟨b28, o28, none⟩) xs.length capu25), (37, .int .i64 ((j26 : Nat) : Int)), (42, .int .i64 (x0.free - n))] (by rw [hw33]) ?_
        refine OI_pure (some 43) (.indexAddr 64 (.tmp 36) (.tmp 37)) (by kernel_rfl) (pure_idxN (b := b28) (o := o28) (len := xs.length) (cap := capu25) (kd := .i64) (j := j26) (E := 68) (sz := 2) (by_ := 16) (by kernel_rfl) (by kernel_rfl) (by kernel_rfl) (by omega)) ?_
        refine OI_static 12 [(0, .pointer (some ⟨l, 0, none⟩)), (2, .int .i64 b), (3, .int .i64 n), (9, .int .i64 (spendsE xs cs a n)), (42, .int .i64 (x0.free - n)), (44, .pointer (some ⟨b28, o28 + j26 * 2, none⟩))] (by kernel_rfl) ?_
        refine OI_set (m := 1) (kd := false) 3 (.tmp 44) (.tmp 42) (o28 + j26 * 2) (.int .i64 (x0.free - n)) [.int .i64 (x0.free - n)] none (by kernel_rfl) (by kernel_rfl) (by kernel_rfl) (At.blk hat28) (by kernel_rfl) (by kernel_rfl) rfl (by have h1 := At.room hat28; have h2 := At.le hat28; rw [List.length_map] at h2; omega) (by simp [Value.oneCell']) ?_
        intro w34 hn35 hk36 hz37
        have hat38 := At.set (y := (Acc.mk (x0.free - n) x0.held : Acc)) (k := 0) hat28 hx0 (by omega) (by simp [Acc.cells, over]) hn35
        have hsz39 := Keep.size hk36
        replace hb13_18 := hb13_18.keep hk36 (by show ¬ (_ = _); omega)
        have hb13lt := hb13_18.lt
        replace hlu25 := hlu25.keep hk36 (by show ¬ (_ = _); omega)
        have hllt := hlu25.lt
        replace hK0 := Keep.fresh hK0 hk36 (by intro i hi hs; have hs2 : i = b28 := hs; first | (exfalso; omega) | (rw [hs2]; exact (hAFu25 _ ⟨_, rfl, rfl⟩).1)); have hzhK0 := Keep.size hK0
        replace hGu25 := Grd.keep hGu25 hk36 (fun q hq hs => by have hs : q = b28 := hs; have g0 := own32 q hq; have g1 := hDltu25 q hq; omega)
        have hlhx40 : (xs.set j26 (Acc.mk (x0.free - n) x0.held)).length = xs.length := List.length_set
        have hx40 : (xs.set j26 (Acc.mk (x0.free - n) x0.held))[j26]? = some (Acc.mk (x0.free - n) x0.held) := by rw [List.getElem?_set_self (List.getElem?_eq_some_iff.1 hx0).1]
        have ht41 : tot (xs.set j26 (Acc.mk (x0.free - n) x0.held)) = tot xs + ((x0.free - n) + x0.held) - (x0.free + x0.held) := tot_set _ hx0
        have hinv41 : Inv (xs.set j26 (Acc.mk (x0.free - n) x0.held)) := Inv.set hinvu25 hx0 _ (by show 0 ≤ (x0.free - n); omega) (by show 0 ≤ x0.held; omega) (by show tot xs + ((x0.free - n) + x0.held) - (x0.free + x0.held) ≤ 1073741824; omega)
        refine OI_end rfl ?_
        refine X_then ?_
        refine V_region ?_
        refine OI_static 3 [(2, .int .i64 b), (3, .int .i64 n), (9, .int .i64 (spendsE xs cs a n)), (47, .pointer (some ⟨l, 0, none⟩))] (by kernel_rfl) ?_
        refine OI_cell 64 (.tmp 47) 0 (.slice (some ⟨b28, o28, none⟩) xs.length capu25) (some 48) (by kernel_rfl) (by kernel_rfl) hlu25 (m := 1) (by kernel_rfl) rfl ?_
        refine OI_static 5 [(3, .int .i64 n), (9, .int .i64 (spendsE xs cs a n)), (48, .slice (some ⟨b28, o28, none⟩) xs.length capu25), (49, .int .i64 b)] (by kernel_rfl) ?_
        refine OI_pick [(3, .int .i64 n), (9, .int .i64 (spendsE xs cs a n)), (48, .slice (some ⟨b28, o28, none⟩) xs.length capu25), (49, .int .i64 b)] (by kernel_rfl) ?_
        refine OI_eq [(3, .int .i64 n), (9, .int .i64 (spendsE xs cs a n)), (48, .slice (some ⟨b28, o28, none⟩) xs.length capu25), (49, .int .i64 ((j27 : Nat) : Int))] (by rw [hj27]) ?_
        refine OI_pure (some 50) (.indexAddr 64 (.tmp 48) (.tmp 49)) (by kernel_rfl) (pure_idxN (b := b28) (o := o28) (len := xs.length) (cap := capu25) (kd := .i64) (j := j27) (E := 68) (sz := 2) (by_ := 16) (by kernel_rfl) (by kernel_rfl) (by kernel_rfl) (by omega)) ?_
        refine OI_static 7 [(3, .int .i64 n), (9, .int .i64 (spendsE xs cs a n)), (48, .slice (some ⟨b28, o28, none⟩) xs.length capu25), (49, .int .i64 ((j27 : Nat) : Int)), (51, .pointer (some ⟨b28, o28 + j27 * 2, none⟩))] (by kernel_rfl) ?_
        obtain ⟨x42, hx43⟩ : ∃ x, (xs.set j26 (Acc.mk (x0.free - n) x0.held))[j27]? = some x := ⟨_, List.getElem?_eq_getElem (by first | omega | (simp only [List.length_map]; omega))⟩
        obtain ⟨hbf44, hbh44, hbt44, _⟩ := hinv41.at_ hx43
        refine OI_cell 3 (.tmp 51) (o28 + j27 * 2) (.int .i64 x42.free) (some 52) (by kernel_rfl) (by kernel_rfl) hat38.blk (m := 1) (by kernel_rfl) (At.cell0 hat38 (es_at hx43) rfl) ?_
        have hw45 : IntKind.i64.wrap (x42.free + n) = x42.free + n := (wrap64_id (by omega) (by omega)).trans (by omega)
        refine OI_static 10 [(9, .int .i64 (spendsE xs cs a n)), (48, .slice (some ⟨b28, o28, none⟩) xs.length capu25), (49, .int .i64 ((j27 : Nat) : Int)), (54, .int .i64 (IntKind.i64.wrap (x42.free + n)))] (by kernel_rfl) ?_
        refine OI_eq [(9, .int .i64 (spendsE xs cs a n)), (48, .slice (some ⟨b28, o28, none⟩) xs.length capu25), (49, .int .i64 ((j27 : Nat) : Int)), (54, .int .i64 (x42.free + n))] (by rw [hw45]) ?_
        refine OI_pure (some 55) (.indexAddr 64 (.tmp 48) (.tmp 49)) (by kernel_rfl) (pure_idxN (b := b28) (o := o28) (len := xs.length) (cap := capu25) (kd := .i64) (j := j27) (E := 68) (sz := 2) (by_ := 16) (by kernel_rfl) (by kernel_rfl) (by kernel_rfl) (by omega)) ?_
        refine OI_static 12 [(9, .int .i64 (spendsE xs cs a n)), (54, .int .i64 (x42.free + n)), (56, .pointer (some ⟨b28, o28 + j27 * 2, none⟩))] (by kernel_rfl) ?_
        refine OI_set (m := 1) (kd := false) 3 (.tmp 56) (.tmp 54) (o28 + j27 * 2) (.int .i64 (x42.free + n)) [.int .i64 (x42.free + n)] none (by kernel_rfl) (by kernel_rfl) (by kernel_rfl) (At.blk hat38) (by kernel_rfl) (by kernel_rfl) rfl (by have h1 := At.room hat38; have h2 := At.le hat38; rw [List.length_map] at h2; omega) (by simp [Value.oneCell']) ?_
        intro w46 hn47 hk48 hz49
        have hat50 := At.set (y := (Acc.mk (x42.free + n) x42.held : Acc)) (k := 0) hat38 hx43 (by omega) (by simp [Acc.cells, over]) hn47
        have hsz51 := Keep.size hk48
        replace hb13_18 := hb13_18.keep hk48 (by show ¬ (_ = _); omega)
        have hb13lt := hb13_18.lt
        replace hlu25 := hlu25.keep hk48 (by show ¬ (_ = _); omega)
        have hllt := hlu25.lt
        replace hK0 := Keep.fresh hK0 hk48 (by intro i hi hs; have hs2 : i = b28 := hs; first | (exfalso; omega) | (rw [hs2]; exact (hAFu25 _ ⟨_, rfl, rfl⟩).1)); have hzhK0 := Keep.size hK0
        replace hGu25 := Grd.keep hGu25 hk48 (fun q hq hs => by have hs : q = b28 := hs; have g0 := own32 q hq; have g1 := hDltu25 q hq; omega)
        have hlhx52 : ((xs.set j26 (Acc.mk (x0.free - n) x0.held)).set j27 (Acc.mk (x42.free + n) x42.held)).length = (xs.set j26 (Acc.mk (x0.free - n) x0.held)).length := List.length_set
        have hx52 : ((xs.set j26 (Acc.mk (x0.free - n) x0.held)).set j27 (Acc.mk (x42.free + n) x42.held))[j27]? = some (Acc.mk (x42.free + n) x42.held) := by rw [List.getElem?_set_self (List.getElem?_eq_some_iff.1 hx43).1]
        have ht53 : tot ((xs.set j26 (Acc.mk (x0.free - n) x0.held)).set j27 (Acc.mk (x42.free + n) x42.held)) = tot (xs.set j26 (Acc.mk (x0.free - n) x0.held)) + ((x42.free + n) + x42.held) - (x42.free + x42.held) := tot_set _ hx43
        have hinv53 : Inv ((xs.set j26 (Acc.mk (x0.free - n) x0.held)).set j27 (Acc.mk (x42.free + n) x42.held)) := Inv.set hinv41 hx43 _ (by show 0 ≤ (x42.free + n); omega) (by show 0 ≤ x42.held; omega) (by show tot (xs.set j26 (Acc.mk (x0.free - n) x0.held)) + ((x42.free + n) + x42.held) - (x42.free + x42.held) ≤ 1073741824; omega)
        refine OI_end rfl ?_
        refine X_then ?_
        refine V_seq ?_
        refine V_region ?_
        refine OI_static 2 [(8, .int .i64 (spendsE xs cs a n))] (by kernel_rfl) ?_
        refine OI_end rfl ?_
        refine X_then ?_
        refine V_ret ?_
        exact X_return (.int .i64 (spendsE xs cs a n)) rfl ⟨by unfold transE; simp_all, ⟨F, (by rw [show transX xs cs a b n = addF (subF xs a n) b n from by unfold transX; rw [if_pos ⟨(by simpa using hc20), hc24⟩], show subF xs a n = _ from by unfold subF; rw [setA_at hj26, acct_at hj26 hx0 hjl26], show addF (xs.set j26 (Acc.mk (x0.free - n) x0.held)) b n = _ from by unfold addF; rw [setA_at hj27, acct_at hj27 hx43 hjl27]]; exact ⟨hinv53, hFlu25, fun q hq => Nat.lt_of_lt_of_le (hFltu25 q hq) (by omega), gu25, _, _, Du25, ⟨by simp only [List.length_set]; exact hlu25, At.slt hat50⟩, hGu25, hAFu25, hDFu25, hADu25⟩), fun q h => .inl h⟩, hK0⟩
      · skip
        refine V_skip ?_
        refine X_then ?_
        refine V_seq ?_
        refine V_region ?_
        refine OI_static 2 [(8, .int .i64 (spendsE xs cs a n))] (by kernel_rfl) ?_
        refine OI_end rfl ?_
        refine X_then ?_
        refine V_ret ?_
        exact X_return (.int .i64 (spendsE xs cs a n)) rfl ⟨by unfold transE; simp_all, ⟨F, by rw [show transX xs cs a b n = xs from by unfold transX; simp_all]; exact h, fun q h => .inl h⟩, hK0⟩

theorem reserve_spec (F : Nat → Prop) (l : Nat) (xs : List Acc) (cs : List Ci) (a n : Int) (w : World) (h : Led F w l xs cs) : Calls Try.prog 21 #[.pointer (some ⟨l, 0, none⟩), .int .i64 a, .int .i64 n] w fun e w' => e = .returned (.int .i64 (spendsE xs cs a n)) ∧ (∃ F', Led F' w' l (resX xs cs a n) (cs) ∧ (∀ q, F' q → F q ∨ w.heap.size ≤ q)) ∧ Keep F w w' := by
  have hFlt := Led.lt h
  have hllt := hFlt _ (Led.at_ h)
  have hinv := Led.inv h
  have hK0 : Keep F w w := Keep.refl _ _
  have hzhK0 := Keep.size hK0
  refine enterV Try.func21 rfl [.pointer (some ⟨l, 0, none⟩), .int .i64 a, .int .i64 n] 39 rfl rfl rfl ?_
  refine V_pick [(0, .pointer (some ⟨l, 0, none⟩)), (1, .int .i64 a), (2, .int .i64 n)] rfl ?_
  refine V_seq ?_
  refine V_region ?_
  refine OI_static 1 [(0, .pointer (some ⟨l, 0, none⟩)), (1, .int .i64 a), (2, .int .i64 n)] (by kernel_rfl) ?_
  refine OI_end rfl ?_
  refine X_then ?_
  refine V_seq ?_
  refine V_region ?_
  refine OI_static 3 [(0, .pointer (some ⟨l, 0, none⟩)), (1, .int .i64 a), (2, .int .i64 n), (8, .pointer (some ⟨l, 0, none⟩)), (9, .int .i64 a), (10, .int .i64 n)] (by kernel_rfl) ?_
  refine OI_call { callee := (Callee.value (Operand.func 38)), args := #[(Operand.tmp 8), (Operand.tmp 9), (Operand.tmp 10)], argTypes := #[22, 3, 3] } 38 #[.pointer (some ⟨l, 0, none⟩), .int .i64 a, .int .i64 n] (some 11) (by kernel_rfl) (by kernel_rfl) (by kernel_rfl) (spends_spec F l xs cs a n _ h) ?_
  rintro _ w1 ⟨rfl, hk2⟩
  refine ⟨_, rfl, ?_⟩
  have hsz3 := Keep.size hk2
  replace h := Led.keep h hk2 (fun _ _ f => f)
  replace hK0 := Keep.tr hK0 (Keep.ofNone hk2); have hzhK0 := Keep.size hK0
  refine OI_static 5 [(0, .pointer (some ⟨l, 0, none⟩)), (1, .int .i64 a), (2, .int .i64 n), (7, .int .i64 (spendsE xs cs a n))] (by kernel_rfl) ?_
  refine OI_end rfl ?_
  refine X_then ?_
  refine V_seq ?_
  refine V_seq ?_
  refine V_region ?_
  refine OI_static 2 [(0, .pointer (some ⟨l, 0, none⟩)), (1, .int .i64 a), (2, .int .i64 n), (7, .int .i64 (spendsE xs cs a n)), (13, .bool (decide (spendsE xs cs a n = 0)))] (by kernel_rfl) ?_
  refine OI_end rfl ?_
  refine X_then ?_
  refine V_if (spendsE xs cs a n = 0) (by kernel_rfl) (fun hc4 => ?_) (fun hc4 => ?_)
  · skip
    obtain ⟨hsa, hn1, hn2, hn3, hn4⟩ := spends_ok hinv hc4
    obtain ⟨hinvu5, hFlu5, hFltu5, gu5, Au5, capu5, Du5, hatu5, hGu5, hAFu5, hDFu5, hADu5⟩ := h
    have hlu5 := hatu5.blk
    have hAu5 := hatu5.sl
    have hlku5 := hlu5.lt
    have hAlu5 := fun q hq => And.intro (hAFu5 q hq).2 (hFlt q (hAFu5 q hq).1)
    have hAltu5 := SlT.lt hAu5
    have hDlu5 := fun q hq => And.intro (hDFu5 q hq).2 (hFlt q (hDFu5 q hq).1)
    have hDltu5 := Grd.lt hGu5
    have hx10u5 := hinvu5.1
    have htotu5 := hinvu5.2.2
    have hgu5lt := hDltu5 _ (Grd.at_ hGu5)
    obtain ⟨j6, hj6, hjl6⟩ : ∃ j : Nat, a = j ∧ j < 10 := ⟨(a).toNat, by have h9 := hsa; simp only [isA, decide_eq_true_eq] at h9; omega, by have h9 := hsa; simp only [isA, decide_eq_true_eq] at h9; omega⟩
    obtain ⟨x0, hx0⟩ : ∃ x, xs[j6]? = some x := ⟨_, List.getElem?_eq_getElem (by omega)⟩
    have hxa := acct_at hj6 hx0 hjl6
    rw [hxa] at hn3 hn4
    obtain ⟨hbf0, hbh0, hbt0, _⟩ := hinv.at_ hx0
    refine V_seq ?_
    refine V_region ?_
    refine OI_static 3 [(0, .pointer (some ⟨l, 0, none⟩)), (1, .int .i64 a), (2, .int .i64 n), (7, .int .i64 (spendsE xs cs a n)), (16, .pointer (some ⟨l, 0, none⟩))] (by kernel_rfl) ?_
    refine OI_cell 64 (.tmp 16) 0 (.slice Au5 xs.length capu5) (some 17) (by kernel_rfl) (by kernel_rfl) hlu5 (m := 1) (by kernel_rfl) rfl ?_
    refine OI_static 5 [(0, .pointer (some ⟨l, 0, none⟩)), (1, .int .i64 a), (2, .int .i64 n), (7, .int .i64 (spendsE xs cs a n)), (17, .slice Au5 xs.length capu5), (18, .int .i64 a)] (by kernel_rfl) ?_
    obtain ⟨b7, o7, L7, T7, rfl, hat7⟩ := SlT.open_ hAu5 (by first | omega | (simp only [List.length_map]; omega) | (simp; done) | (simp; omega))
    have hb7lt := hat7.blk.lt
    have hob8 := hAlu5 b7 ⟨_, rfl, rfl⟩
    have hob9 := hAltu5 b7 ⟨_, rfl, rfl⟩
    have hne10 : ∀ q, Du5 q → q ≠ b7 := fun q hq hs => (fun q h1 h2 => hADu5 q h2 h1) q hq ⟨_, rfl, hs⟩
    have own11 := fun q hq => And.intro (hDlu5 q hq) (hne10 q hq)
    refine OI_pick [(0, .pointer (some ⟨l, 0, none⟩)), (1, .int .i64 a), (2, .int .i64 n), (7, .int .i64 (spendsE xs cs a n)), (17, .slice (some ⟨b7, o7, none⟩) xs.length capu5), (18, .int .i64 a)] (by kernel_rfl) ?_
    refine OI_eq [(0, .pointer (some ⟨l, 0, none⟩)), (1, .int .i64 a), (2, .int .i64 n), (7, .int .i64 (spendsE xs cs a n)), (17, .slice (some ⟨b7, o7, none⟩) xs.length capu5), (18, .int .i64 ((j6 : Nat) : Int))] (by rw [hj6]) ?_
    refine OI_pure (some 19) (.indexAddr 64 (.tmp 17) (.tmp 18)) (by kernel_rfl) (pure_idxN (b := b7) (o := o7) (len := xs.length) (cap := capu5) (kd := .i64) (j := j6) (E := 68) (sz := 2) (by_ := 16) (by kernel_rfl) (by kernel_rfl) (by kernel_rfl) (by omega)) ?_
    refine OI_static 7 [(0, .pointer (some ⟨l, 0, none⟩)), (1, .int .i64 a), (2, .int .i64 n), (7, .int .i64 (spendsE xs cs a n)), (17, .slice (some ⟨b7, o7, none⟩) xs.length capu5), (18, .int .i64 ((j6 : Nat) : Int)), (20, .pointer (some ⟨b7, o7 + j6 * 2, none⟩))] (by kernel_rfl) ?_
    refine OI_cell 3 (.tmp 20) (o7 + j6 * 2) (.int .i64 x0.free) (some 21) (by kernel_rfl) (by kernel_rfl) hat7.blk (m := 1) (by kernel_rfl) (At.cell0 hat7 (es_at hx0) rfl) ?_
    have hw12 : IntKind.i64.wrap (x0.free - n) = x0.free - n := (wrap64_id (by omega) (by omega)).trans (by omega)
    refine OI_static 10 [(0, .pointer (some ⟨l, 0, none⟩)), (1, .int .i64 a), (2, .int .i64 n), (7, .int .i64 (spendsE xs cs a n)), (17, .slice (some ⟨b7, o7, none⟩) xs.length capu5), (18, .int .i64 ((j6 : Nat) : Int)), (23, .int .i64 (IntKind.i64.wrap (x0.free - n)))] (by kernel_rfl) ?_
    refine OI_eq [(0, .pointer (some ⟨l, 0, none⟩)), (1, .int .i64 a), (2, .int .i64 n), (7, .int .i64 (spendsE xs cs a n)), (17, .slice (some ⟨b7, o7, none⟩) xs.length capu5), (18, .int .i64 ((j6 : Nat) : Int)), (23, .int .i64 (x0.free - n))] (by rw [hw12]) ?_
    refine OI_pure (some 24) (.indexAddr 64 (.tmp 17) (.tmp 18)) (by kernel_rfl) (pure_idxN (b := b7) (o := o7) (len := xs.length) (cap := capu5) (kd := .i64) (j := j6) (E := 68) (sz := 2) (by_ := 16) (by kernel_rfl) (by kernel_rfl) (by kernel_rfl) (by omega)) ?_
    refine OI_static 12 [(0, .pointer (some ⟨l, 0, none⟩)), (1, .int .i64 a), (2, .int .i64 n), (7, .int .i64 (spendsE xs cs a n)), (23, .int .i64 (x0.free - n)), (25, .pointer (some ⟨b7, o7 + j6 * 2, none⟩))] (by kernel_rfl) ?_
    refine OI_set (m := 1) (kd := false) 3 (.tmp 25) (.tmp 23) (o7 + j6 * 2) (.int .i64 (x0.free - n)) [.int .i64 (x0.free - n)] none (by kernel_rfl) (by kernel_rfl) (by kernel_rfl) (At.blk hat7) (by kernel_rfl) (by kernel_rfl) rfl (by have h1 := At.room hat7; have h2 := At.le hat7; rw [List.length_map] at h2; omega) (by simp [Value.oneCell']) ?_
    intro w13 hn14 hk15 hz16
    have hat17 := At.set (y := (Acc.mk (x0.free - n) x0.held : Acc)) (k := 0) hat7 hx0 (by omega) (by simp [Acc.cells, over]) hn14
    have hsz18 := Keep.size hk15
    replace hlu5 := hlu5.keep hk15 (by show ¬ (_ = _); omega)
    have hllt := hlu5.lt
    replace hK0 := Keep.fresh hK0 hk15 (by intro i hi hs; have hs2 : i = b7 := hs; first | (exfalso; omega) | (rw [hs2]; exact (hAFu5 _ ⟨_, rfl, rfl⟩).1)); have hzhK0 := Keep.size hK0
    replace hGu5 := Grd.keep hGu5 hk15 (fun q hq hs => by have hs : q = b7 := hs; have g0 := own11 q hq; have g1 := hDltu5 q hq; omega)
    have hlhx19 : (xs.set j6 (Acc.mk (x0.free - n) x0.held)).length = xs.length := List.length_set
    have hx19 : (xs.set j6 (Acc.mk (x0.free - n) x0.held))[j6]? = some (Acc.mk (x0.free - n) x0.held) := by rw [List.getElem?_set_self (List.getElem?_eq_some_iff.1 hx0).1]
    have ht20 : tot (xs.set j6 (Acc.mk (x0.free - n) x0.held)) = tot xs + ((x0.free - n) + x0.held) - (x0.free + x0.held) := tot_set _ hx0
    have hinv20 : Inv (xs.set j6 (Acc.mk (x0.free - n) x0.held)) := Inv.set hinvu5 hx0 _ (by show 0 ≤ (x0.free - n); omega) (by show 0 ≤ x0.held; omega) (by show tot xs + ((x0.free - n) + x0.held) - (x0.free + x0.held) ≤ 1073741824; omega)
    refine OI_end rfl ?_
    refine X_then ?_
    refine V_region ?_
    refine OI_static 3 [(1, .int .i64 a), (2, .int .i64 n), (7, .int .i64 (spendsE xs cs a n)), (28, .pointer (some ⟨l, 0, none⟩))] (by kernel_rfl) ?_
    refine OI_cell 64 (.tmp 28) 0 (.slice (some ⟨b7, o7, none⟩) xs.length capu5) (some 29) (by kernel_rfl) (by kernel_rfl) hlu5 (m := 1) (by kernel_rfl) rfl ?_
    refine OI_static 5 [(2, .int .i64 n), (7, .int .i64 (spendsE xs cs a n)), (29, .slice (some ⟨b7, o7, none⟩) xs.length capu5), (30, .int .i64 a)] (by kernel_rfl) ?_
    refine OI_pick [(2, .int .i64 n), (7, .int .i64 (spendsE xs cs a n)), (29, .slice (some ⟨b7, o7, none⟩) xs.length capu5), (30, .int .i64 a)] (by kernel_rfl) ?_
    refine OI_eq [(2, .int .i64 n), (7, .int .i64 (spendsE xs cs a n)), (29, .slice (some ⟨b7, o7, none⟩) xs.length capu5), (30, .int .i64 ((j6 : Nat) : Int))] (by rw [hj6]) ?_
    refine OI_pure (some 31) (.indexAddr 64 (.tmp 29) (.tmp 30)) (by kernel_rfl) (pure_idxN (b := b7) (o := o7) (len := xs.length) (cap := capu5) (kd := .i64) (j := j6) (E := 68) (sz := 2) (by_ := 16) (by kernel_rfl) (by kernel_rfl) (by kernel_rfl) (by omega)) ?_
    refine OI_static 7 [(2, .int .i64 n), (7, .int .i64 (spendsE xs cs a n)), (29, .slice (some ⟨b7, o7, none⟩) xs.length capu5), (30, .int .i64 ((j6 : Nat) : Int)), (32, .pointer (some ⟨b7, o7 + j6 * 2 + 1, none⟩))] (by kernel_rfl) ?_
    refine OI_cell 3 (.tmp 32) (o7 + j6 * 2 + 1) (.int .i64 x0.held) (some 33) (by kernel_rfl) (by kernel_rfl) hat17.blk (m := 1) (by kernel_rfl) (At.cell hat17 (es_at hx19) rfl) ?_
    have hw21 : IntKind.i64.wrap (x0.held + n) = x0.held + n := (wrap64_id (by omega) (by omega)).trans (by omega)
    refine OI_static 10 [(7, .int .i64 (spendsE xs cs a n)), (29, .slice (some ⟨b7, o7, none⟩) xs.length capu5), (30, .int .i64 ((j6 : Nat) : Int)), (35, .int .i64 (IntKind.i64.wrap (x0.held + n)))] (by kernel_rfl) ?_
    refine OI_eq [(7, .int .i64 (spendsE xs cs a n)), (29, .slice (some ⟨b7, o7, none⟩) xs.length capu5), (30, .int .i64 ((j6 : Nat) : Int)), (35, .int .i64 (x0.held + n))] (by rw [hw21]) ?_
    refine OI_pure (some 36) (.indexAddr 64 (.tmp 29) (.tmp 30)) (by kernel_rfl) (pure_idxN (b := b7) (o := o7) (len := xs.length) (cap := capu5) (kd := .i64) (j := j6) (E := 68) (sz := 2) (by_ := 16) (by kernel_rfl) (by kernel_rfl) (by kernel_rfl) (by omega)) ?_
    refine OI_static 12 [(7, .int .i64 (spendsE xs cs a n)), (35, .int .i64 (x0.held + n)), (37, .pointer (some ⟨b7, o7 + j6 * 2 + 1, none⟩))] (by kernel_rfl) ?_
    refine OI_set (m := 1) (kd := false) 3 (.tmp 37) (.tmp 35) (o7 + j6 * 2 + 1) (.int .i64 (x0.held + n)) [.int .i64 (x0.held + n)] none (by kernel_rfl) (by kernel_rfl) (by kernel_rfl) (At.blk hat17) (by kernel_rfl) (by kernel_rfl) rfl (by have h1 := At.room hat17; have h2 := At.le hat17; rw [List.length_map] at h2; omega) (by simp [Value.oneCell']) ?_
    intro w22 hn23 hk24 hz25
    have hat26 := At.set (y := (Acc.mk (x0.free - n) (x0.held + n) : Acc)) (k := 1) hat17 hx19 (by omega) (by simp [Acc.cells, over]) hn23
    have hsz27 := Keep.size hk24
    replace hlu5 := hlu5.keep hk24 (by show ¬ (_ = _); omega)
    have hllt := hlu5.lt
    replace hK0 := Keep.fresh hK0 hk24 (by intro i hi hs; have hs2 : i = b7 := hs; first | (exfalso; omega) | (rw [hs2]; exact (hAFu5 _ ⟨_, rfl, rfl⟩).1)); have hzhK0 := Keep.size hK0
    replace hGu5 := Grd.keep hGu5 hk24 (fun q hq hs => by have hs : q = b7 := hs; have g0 := own11 q hq; have g1 := hDltu5 q hq; omega)
    have hlhx28 : ((xs.set j6 (Acc.mk (x0.free - n) x0.held)).set j6 (Acc.mk (x0.free - n) (x0.held + n))).length = (xs.set j6 (Acc.mk (x0.free - n) x0.held)).length := List.length_set
    have hx28 : ((xs.set j6 (Acc.mk (x0.free - n) x0.held)).set j6 (Acc.mk (x0.free - n) (x0.held + n)))[j6]? = some (Acc.mk (x0.free - n) (x0.held + n)) := by rw [List.getElem?_set_self (List.getElem?_eq_some_iff.1 hx19).1]
    have ht29 : tot ((xs.set j6 (Acc.mk (x0.free - n) x0.held)).set j6 (Acc.mk (x0.free - n) (x0.held + n))) = tot (xs.set j6 (Acc.mk (x0.free - n) x0.held)) + ((x0.free - n) + (x0.held + n)) - ((x0.free - n) + x0.held) := tot_set _ hx19
    have hinv29 : Inv ((xs.set j6 (Acc.mk (x0.free - n) x0.held)).set j6 (Acc.mk (x0.free - n) (x0.held + n))) := Inv.set hinv20 hx19 _ (by show 0 ≤ (x0.free - n); omega) (by show 0 ≤ (x0.held + n); omega) (by show tot (xs.set j6 (Acc.mk (x0.free - n) x0.held)) + ((x0.free - n) + (x0.held + n)) - ((x0.free - n) + x0.held) ≤ 1073741824; omega)
    refine OI_end rfl ?_
    refine X_then ?_
    refine V_seq ?_
    refine V_region ?_
    refine OI_static 2 [(6, .int .i64 (spendsE xs cs a n))] (by kernel_rfl) ?_
    refine OI_end rfl ?_
    refine X_then ?_
    refine V_ret ?_
    exact X_return (.int .i64 (spendsE xs cs a n)) rfl ⟨rfl, ⟨F, (by rw [show resX xs cs a n = addH (subF xs a n) a n from by unfold resX; rw [if_pos hc4], show subF xs a n = _ from by unfold subF; rw [setA_at hj6, acct_at hj6 hx0 hjl6], show addH (xs.set j6 (Acc.mk (x0.free - n) x0.held)) a n = _ from by unfold addH; rw [setA_at hj6, acct_at hj6 hx19 hjl6]]; exact ⟨hinv29, hFlu5, fun q hq => Nat.lt_of_lt_of_le (hFltu5 q hq) (by omega), gu5, _, _, Du5, ⟨by simp only [List.length_set]; exact hlu5, At.slt hat26⟩, hGu5, hAFu5, hDFu5, hADu5⟩), fun q h => .inl h⟩, hK0⟩
  · skip
    refine V_skip ?_
    refine X_then ?_
    refine V_seq ?_
    refine V_region ?_
    refine OI_static 2 [(6, .int .i64 (spendsE xs cs a n))] (by kernel_rfl) ?_
    refine OI_end rfl ?_
    refine X_then ?_
    refine V_ret ?_
    exact X_return (.int .i64 (spendsE xs cs a n)) rfl ⟨rfl, ⟨F, by rw [show resX xs cs a n = xs from by unfold resX; simp_all]; exact h, fun q h => .inl h⟩, hK0⟩

theorem burn_spec (F : Nat → Prop) (l : Nat) (xs : List Acc) (cs : List Ci) (a n : Int) (w : World) (h : Led F w l xs cs) : Calls Try.prog 24 #[.pointer (some ⟨l, 0, none⟩), .int .i64 a, .int .i64 n] w fun e w' => e = .returned (.int .i64 (spendsE xs cs a n)) ∧ (∃ F', Led F' w' l (burnX xs cs a n) (cs) ∧ (∀ q, F' q → F q ∨ w.heap.size ≤ q)) ∧ Keep F w w' := by
  have hFlt := Led.lt h
  have hllt := hFlt _ (Led.at_ h)
  have hinv := Led.inv h
  have hK0 : Keep F w w := Keep.refl _ _
  have hzhK0 := Keep.size hK0
  refine enterV Try.func24 rfl [.pointer (some ⟨l, 0, none⟩), .int .i64 a, .int .i64 n] 27 rfl rfl rfl ?_
  refine V_pick [(0, .pointer (some ⟨l, 0, none⟩)), (1, .int .i64 a), (2, .int .i64 n)] rfl ?_
  refine V_seq ?_
  refine V_region ?_
  refine OI_static 1 [(0, .pointer (some ⟨l, 0, none⟩)), (1, .int .i64 a), (2, .int .i64 n)] (by kernel_rfl) ?_
  refine OI_end rfl ?_
  refine X_then ?_
  refine V_seq ?_
  refine V_region ?_
  refine OI_static 3 [(0, .pointer (some ⟨l, 0, none⟩)), (1, .int .i64 a), (2, .int .i64 n), (8, .pointer (some ⟨l, 0, none⟩)), (9, .int .i64 a), (10, .int .i64 n)] (by kernel_rfl) ?_
  refine OI_call { callee := (Callee.value (Operand.func 38)), args := #[(Operand.tmp 8), (Operand.tmp 9), (Operand.tmp 10)], argTypes := #[22, 3, 3] } 38 #[.pointer (some ⟨l, 0, none⟩), .int .i64 a, .int .i64 n] (some 11) (by kernel_rfl) (by kernel_rfl) (by kernel_rfl) (spends_spec F l xs cs a n _ h) ?_
  rintro _ w1 ⟨rfl, hk2⟩
  refine ⟨_, rfl, ?_⟩
  have hsz3 := Keep.size hk2
  replace h := Led.keep h hk2 (fun _ _ f => f)
  replace hK0 := Keep.tr hK0 (Keep.ofNone hk2); have hzhK0 := Keep.size hK0
  refine OI_static 5 [(0, .pointer (some ⟨l, 0, none⟩)), (1, .int .i64 a), (2, .int .i64 n), (7, .int .i64 (spendsE xs cs a n))] (by kernel_rfl) ?_
  refine OI_end rfl ?_
  refine X_then ?_
  refine V_seq ?_
  refine V_seq ?_
  refine V_region ?_
  refine OI_static 2 [(0, .pointer (some ⟨l, 0, none⟩)), (1, .int .i64 a), (2, .int .i64 n), (7, .int .i64 (spendsE xs cs a n)), (13, .bool (decide (spendsE xs cs a n = 0)))] (by kernel_rfl) ?_
  refine OI_end rfl ?_
  refine X_then ?_
  refine V_if (spendsE xs cs a n = 0) (by kernel_rfl) (fun hc4 => ?_) (fun hc4 => ?_)
  · skip
    obtain ⟨hsa, hn1, hn2, hn3, hn4⟩ := spends_ok hinv hc4
    obtain ⟨hinvu5, hFlu5, hFltu5, gu5, Au5, capu5, Du5, hatu5, hGu5, hAFu5, hDFu5, hADu5⟩ := h
    have hlu5 := hatu5.blk
    have hAu5 := hatu5.sl
    have hlku5 := hlu5.lt
    have hAlu5 := fun q hq => And.intro (hAFu5 q hq).2 (hFlt q (hAFu5 q hq).1)
    have hAltu5 := SlT.lt hAu5
    have hDlu5 := fun q hq => And.intro (hDFu5 q hq).2 (hFlt q (hDFu5 q hq).1)
    have hDltu5 := Grd.lt hGu5
    have hx10u5 := hinvu5.1
    have htotu5 := hinvu5.2.2
    have hgu5lt := hDltu5 _ (Grd.at_ hGu5)
    obtain ⟨j6, hj6, hjl6⟩ : ∃ j : Nat, a = j ∧ j < 10 := ⟨(a).toNat, by have h9 := hsa; simp only [isA, decide_eq_true_eq] at h9; omega, by have h9 := hsa; simp only [isA, decide_eq_true_eq] at h9; omega⟩
    obtain ⟨x0, hx0⟩ : ∃ x, xs[j6]? = some x := ⟨_, List.getElem?_eq_getElem (by omega)⟩
    have hxa := acct_at hj6 hx0 hjl6
    rw [hxa] at hn3 hn4
    obtain ⟨hbf0, hbh0, hbt0, _⟩ := hinv.at_ hx0
    refine V_region ?_
    refine OI_static 3 [(1, .int .i64 a), (2, .int .i64 n), (7, .int .i64 (spendsE xs cs a n)), (16, .pointer (some ⟨l, 0, none⟩))] (by kernel_rfl) ?_
    refine OI_cell 64 (.tmp 16) 0 (.slice Au5 xs.length capu5) (some 17) (by kernel_rfl) (by kernel_rfl) hlu5 (m := 1) (by kernel_rfl) rfl ?_
    refine OI_static 5 [(2, .int .i64 n), (7, .int .i64 (spendsE xs cs a n)), (17, .slice Au5 xs.length capu5), (18, .int .i64 a)] (by kernel_rfl) ?_
    obtain ⟨b7, o7, L7, T7, rfl, hat7⟩ := SlT.open_ hAu5 (by first | omega | (simp only [List.length_map]; omega) | (simp; done) | (simp; omega))
    have hb7lt := hat7.blk.lt
    have hob8 := hAlu5 b7 ⟨_, rfl, rfl⟩
    have hob9 := hAltu5 b7 ⟨_, rfl, rfl⟩
    have hne10 : ∀ q, Du5 q → q ≠ b7 := fun q hq hs => (fun q h1 h2 => hADu5 q h2 h1) q hq ⟨_, rfl, hs⟩
    have own11 := fun q hq => And.intro (hDlu5 q hq) (hne10 q hq)
    refine OI_pick [(2, .int .i64 n), (7, .int .i64 (spendsE xs cs a n)), (17, .slice (some ⟨b7, o7, none⟩) xs.length capu5), (18, .int .i64 a)] (by kernel_rfl) ?_
    refine OI_eq [(2, .int .i64 n), (7, .int .i64 (spendsE xs cs a n)), (17, .slice (some ⟨b7, o7, none⟩) xs.length capu5), (18, .int .i64 ((j6 : Nat) : Int))] (by rw [hj6]) ?_
    refine OI_pure (some 19) (.indexAddr 64 (.tmp 17) (.tmp 18)) (by kernel_rfl) (pure_idxN (b := b7) (o := o7) (len := xs.length) (cap := capu5) (kd := .i64) (j := j6) (E := 68) (sz := 2) (by_ := 16) (by kernel_rfl) (by kernel_rfl) (by kernel_rfl) (by omega)) ?_
    refine OI_static 7 [(2, .int .i64 n), (7, .int .i64 (spendsE xs cs a n)), (17, .slice (some ⟨b7, o7, none⟩) xs.length capu5), (18, .int .i64 ((j6 : Nat) : Int)), (20, .pointer (some ⟨b7, o7 + j6 * 2, none⟩))] (by kernel_rfl) ?_
    refine OI_cell 3 (.tmp 20) (o7 + j6 * 2) (.int .i64 x0.free) (some 21) (by kernel_rfl) (by kernel_rfl) hat7.blk (m := 1) (by kernel_rfl) (At.cell0 hat7 (es_at hx0) rfl) ?_
    have hw12 : IntKind.i64.wrap (x0.free - n) = x0.free - n := (wrap64_id (by omega) (by omega)).trans (by omega)
    refine OI_static 10 [(7, .int .i64 (spendsE xs cs a n)), (17, .slice (some ⟨b7, o7, none⟩) xs.length capu5), (18, .int .i64 ((j6 : Nat) : Int)), (23, .int .i64 (IntKind.i64.wrap (x0.free - n)))] (by kernel_rfl) ?_
    refine OI_eq [(7, .int .i64 (spendsE xs cs a n)), (17, .slice (some ⟨b7, o7, none⟩) xs.length capu5), (18, .int .i64 ((j6 : Nat) : Int)), (23, .int .i64 (x0.free - n))] (by rw [hw12]) ?_
    refine OI_pure (some 24) (.indexAddr 64 (.tmp 17) (.tmp 18)) (by kernel_rfl) (pure_idxN (b := b7) (o := o7) (len := xs.length) (cap := capu5) (kd := .i64) (j := j6) (E := 68) (sz := 2) (by_ := 16) (by kernel_rfl) (by kernel_rfl) (by kernel_rfl) (by omega)) ?_
    refine OI_static 12 [(7, .int .i64 (spendsE xs cs a n)), (23, .int .i64 (x0.free - n)), (25, .pointer (some ⟨b7, o7 + j6 * 2, none⟩))] (by kernel_rfl) ?_
    refine OI_set (m := 1) (kd := false) 3 (.tmp 25) (.tmp 23) (o7 + j6 * 2) (.int .i64 (x0.free - n)) [.int .i64 (x0.free - n)] none (by kernel_rfl) (by kernel_rfl) (by kernel_rfl) (At.blk hat7) (by kernel_rfl) (by kernel_rfl) rfl (by have h1 := At.room hat7; have h2 := At.le hat7; rw [List.length_map] at h2; omega) (by simp [Value.oneCell']) ?_
    intro w13 hn14 hk15 hz16
    have hat17 := At.set (y := (Acc.mk (x0.free - n) x0.held : Acc)) (k := 0) hat7 hx0 (by omega) (by simp [Acc.cells, over]) hn14
    have hsz18 := Keep.size hk15
    replace hlu5 := hlu5.keep hk15 (by show ¬ (_ = _); omega)
    have hllt := hlu5.lt
    replace hK0 := Keep.fresh hK0 hk15 (by intro i hi hs; have hs2 : i = b7 := hs; first | (exfalso; omega) | (rw [hs2]; exact (hAFu5 _ ⟨_, rfl, rfl⟩).1)); have hzhK0 := Keep.size hK0
    replace hGu5 := Grd.keep hGu5 hk15 (fun q hq hs => by have hs : q = b7 := hs; have g0 := own11 q hq; have g1 := hDltu5 q hq; omega)
    have hlhx19 : (xs.set j6 (Acc.mk (x0.free - n) x0.held)).length = xs.length := List.length_set
    have hx19 : (xs.set j6 (Acc.mk (x0.free - n) x0.held))[j6]? = some (Acc.mk (x0.free - n) x0.held) := by rw [List.getElem?_set_self (List.getElem?_eq_some_iff.1 hx0).1]
    have ht20 : tot (xs.set j6 (Acc.mk (x0.free - n) x0.held)) = tot xs + ((x0.free - n) + x0.held) - (x0.free + x0.held) := tot_set _ hx0
    have hinv20 : Inv (xs.set j6 (Acc.mk (x0.free - n) x0.held)) := Inv.set hinvu5 hx0 _ (by show 0 ≤ (x0.free - n); omega) (by show 0 ≤ x0.held; omega) (by show tot xs + ((x0.free - n) + x0.held) - (x0.free + x0.held) ≤ 1073741824; omega)
    refine OI_end rfl ?_
    refine X_then ?_
    refine V_seq ?_
    refine V_region ?_
    refine OI_static 2 [(6, .int .i64 (spendsE xs cs a n))] (by kernel_rfl) ?_
    refine OI_end rfl ?_
    refine X_then ?_
    refine V_ret ?_
    exact X_return (.int .i64 (spendsE xs cs a n)) rfl ⟨rfl, ⟨F, (by rw [show burnX xs cs a n = subF xs a n from by unfold burnX; rw [if_pos hc4], show subF xs a n = _ from by unfold subF; rw [setA_at hj6, acct_at hj6 hx0 hjl6]]; exact ⟨hinv20, hFlu5, fun q hq => Nat.lt_of_lt_of_le (hFltu5 q hq) (by omega), gu5, _, _, Du5, ⟨by simp only [List.length_set]; exact hlu5, At.slt hat17⟩, hGu5, hAFu5, hDFu5, hADu5⟩), fun q h => .inl h⟩, hK0⟩
  · skip
    refine V_skip ?_
    refine X_then ?_
    refine V_seq ?_
    refine V_region ?_
    refine OI_static 2 [(6, .int .i64 (spendsE xs cs a n))] (by kernel_rfl) ?_
    refine OI_end rfl ?_
    refine X_then ?_
    refine V_ret ?_
    exact X_return (.int .i64 (spendsE xs cs a n)) rfl ⟨rfl, ⟨F, by rw [show burnX xs cs a n = xs from by unfold burnX; simp_all]; exact h, fun q h => .inl h⟩, hK0⟩
end Go.Al
