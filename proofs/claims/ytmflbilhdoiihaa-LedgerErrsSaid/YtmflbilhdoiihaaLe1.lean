/-
  Walks of package ledger: accounts.
-/
import Derived.Test.YtmflbilhdoiihaaGr7
namespace Go.Al
open Go Go.RowKit Go.Proofs
/-! ### Accounts -/
structure Acc where
  free : Int
  held : Int
def Acc.cells (x : Acc) : List Value := [.int .i64 x.free, .int .i64 x.held]
theorem Acc.len (x : Acc) : x.cells.length = 2 := rfl
theorem Acc.one (x : Acc) : ∀ u ∈ x.cells, u.oneCell' = true := one_all' rfl
def tot : List Acc → Int
  | [] => 0
  | x :: l => x.free + x.held + tot l
def Inv (xs : List Acc) : Prop := xs.length = 10 ∧ (∀ x ∈ xs, 0 ≤ x.free ∧ 0 ≤ x.held) ∧ tot xs ≤ 1073741824
theorem tot_mem : ∀ {xs : List Acc}, (∀ x ∈ xs, 0 ≤ x.free ∧ 0 ≤ x.held) → 0 ≤ tot xs ∧ ∀ x ∈ xs, x.free + x.held ≤ tot xs
  | [], _ => ⟨Int.le_refl _, fun x hx => by cases hx⟩
  | y :: l, h => by
    have hy := h y (List.mem_cons_self ..)
    obtain ⟨h1, h2⟩ := tot_mem (fun x hx => h x (List.mem_cons_of_mem _ hx))
    refine ⟨by simp only [tot]; omega, fun x hx => ?_⟩
    simp only [tot]
    rcases List.mem_cons.1 hx with rfl | hx
    · omega
    · have := h2 x hx; omega
theorem Inv.at_ {xs : List Acc} (h : Inv xs) {j : Nat} {x : Acc} (hx : xs[j]? = some x) : 0 ≤ x.free ∧ 0 ≤ x.held ∧ x.free + x.held ≤ 1073741824 ∧ j < 10 := by
  have hm := List.mem_of_getElem? hx
  have h1 := h.2.1 x hm
  have h2 := (tot_mem h.2.1).2 x hm
  have h3 := h.2.2
  have h4 := (List.getElem?_eq_some_iff.1 hx).1
  have h5 := h.1
  refine ⟨h1.1, h1.2, by omega, by omega⟩
theorem tot_set : ∀ {xs : List Acc} {j : Nat} {x : Acc} (y : Acc), xs[j]? = some x → tot (xs.set j y) = tot xs + (y.free + y.held) - (x.free + x.held)
  | [], _, _, _, h => by simp at h
  | z :: l, 0, x, y, h => by
    simp only [List.getElem?_cons_zero, Option.some.injEq] at h
    subst h
    simp only [List.set_cons_zero, tot]; omega
  | z :: l, j + 1, x, y, h => by
    have := tot_set (xs := l) (j := j) y (by simpa using h)
    simp only [List.set_cons_succ, tot]; omega
def isA (a : Int) : Bool := decide (0 ≤ a ∧ a < 10)
def acct (xs : List Acc) (a : Int) : Acc := if 0 ≤ a ∧ a < 10 then (xs[a.toNat]?).getD ⟨0, 0⟩ else ⟨0, 0⟩
theorem acct_in {xs : List Acc} {j : Nat} {x : Acc} (hx : xs[j]? = some x) (hj : j < 10) : acct xs (j : Int) = x := by
  unfold acct
  rw [if_pos (by omega), Int.toNat_natCast, hx]; rfl
theorem acct_out {xs : List Acc} {a : Int} (h : ¬ (0 ≤ a ∧ a < 10)) : acct xs a = ⟨0, 0⟩ := by unfold acct; rw [if_neg h]
theorem isA_in {j : Nat} (h : j < 10) : isA (j : Int) = true := by unfold isA; exact decide_eq_true (by omega)
theorem isA_out {a : Int} (h : ¬ (0 ≤ a ∧ a < 10)) : isA a = false := by unfold isA; exact decide_eq_false h
theorem isA_some {xs : List Acc} (h : Inv xs) {a : Int} (ha : isA a = true) : ∃ (j : Nat) (x : Acc), a = j ∧ j < 10 ∧ xs[j]? = some x ∧ acct xs a = x := by
  have ha : 0 ≤ a ∧ a < 10 := by simpa [isA] using ha
  obtain ⟨j, rfl⟩ : ∃ j : Nat, a = j := ⟨a.toNat, by omega⟩
  have hl := h.1
  refine ⟨j, xs[j]'(by omega), rfl, by omega, List.getElem?_eq_getElem (by omega), acct_in (List.getElem?_eq_getElem (by omega)) (by omega)⟩
/-- The ledger at l: accounts xs, locks cs; all of its blocks lie in F. -/
structure LedAt (w : World) (l g : Nat) (A : Option Addr) (cap : Nat) (xs : List Acc) : Prop where
  blk : Blk w l [.slice A xs.length cap, .pointer (some ⟨g, 0, none⟩)] 66
  sl : SlT w 2 Acc.cells A cap xs
def Led (F : Nat → Prop) (w : World) (l : Nat) (xs : List Acc) (cs : List Ci) : Prop := Inv xs ∧ F l ∧ (∀ q, F q → q < w.heap.size) ∧ ∃ g A cap D, LedAt w l g A cap xs ∧ Grd D w g cs ∧ (∀ q, inA A q → F q ∧ q ≠ l) ∧ (∀ q, D q → F q ∧ q ≠ l) ∧ (∀ q, inA A q → ¬ D q)
theorem Led.lt {F : Nat → Prop} {w : World} {l : Nat} {xs : List Acc} {cs : List Ci} (h : Led F w l xs cs) : ∀ q, F q → q < w.heap.size := h.2.2.1
theorem Led.at_ {F : Nat → Prop} {w : World} {l : Nat} {xs : List Acc} {cs : List Ci} (h : Led F w l xs cs) : F l := h.2.1
theorem Led.inv {F : Nat → Prop} {w : World} {l : Nat} {xs : List Acc} {cs : List Ci} (h : Led F w l xs cs) : Inv xs := h.1
theorem Led.len {F : Nat → Prop} {w : World} {l : Nat} {xs : List Acc} {cs : List Ci} (h : Led F w l xs cs) : cs.length ≤ 100000 := by
  obtain ⟨_, _, _, _, _, _, _, _, h, _⟩ := h
  exact h.len
theorem Led.keep {S F : Nat → Prop} {w w' : World} {l : Nat} {xs : List Acc} {cs : List Ci} (h : Led F w l xs cs) (k : Keep S w w') (hS : ∀ q, F q → ¬ S q) : Led F w' l xs cs := by
  obtain ⟨h0, h1, h2, g, A, cap, D, h3, h4, h5, h6, h7⟩ := h
  exact ⟨h0, h1, fun q hq => Nat.lt_of_lt_of_le (h2 q hq) k.size, g, A, cap, D, ⟨h3.blk.keep k (hS _ h1), h3.sl.keep k (fun q hq => hS q (h5 q hq).1)⟩, h4.keep k (fun q hq => hS q (h6 q hq).1), h5, h6, h7⟩
theorem Led.quiet {N : Nat} {F : Nat → Prop} {w w' : World} {l : Nat} {xs : List Acc} {cs : List Ci} (h : Led F w l xs cs) (k : Keep (lb N w) w w') : Led F w' l xs cs := by
  obtain ⟨h0, h1, h2, g, A, cap, D, h3, h4, h5, h6, h7⟩ := h
  exact ⟨h0, h1, fun q hq => Nat.lt_of_lt_of_le (h2 q hq) k.size, g, A, cap, D, ⟨h3.blk.quiet k, h3.sl.quiet k⟩, h4.quiet k, h5, h6, h7⟩

theorem isAmount_spec (n : Int) (w : World) : Calls Try.prog 33 #[.int .i64 n] w fun e w' => e = .returned (.bool (decide (0 ≤ n ∧ n ≤ 1073741824))) ∧ w' = w := by
  refine enterV Try.func33 rfl [.int .i64 n] 9 rfl rfl rfl ?_
  refine V_pick [(0, .int .i64 n)] rfl ?_
  refine V_seq ?_
  refine V_region ?_
  refine OI_static 1 [(0, .int .i64 n)] (by kernel_rfl) ?_
  refine OI_end rfl ?_
  refine X_then ?_
  refine V_seq ?_
  refine V_region ?_
  refine OI_static 3 [(0, .int .i64 n), (5, .bool (decide (n ≥ 0)))] (by kernel_rfl) ?_
  by_cases hg1 : n ≥ 0
  · skip
    refine OI_eq [(0, .int .i64 n), (5, .bool true)] (by first | simp [hg1] | rfl) ?_
    refine OI_static 7 [(2, .bool (decide (n ≤ 1073741824)))] (by kernel_rfl) ?_
    refine OI_end rfl ?_
    refine X_then ?_
    refine V_ret ?_
    exact X_return (.bool (decide (n ≤ 1073741824))) rfl ⟨by congr 2; simp only [Bool.decide_and]; by_cases h1 : 0 ≤ n <;> simp [h1] <;> omega, rfl⟩
  · skip
    refine OI_eq [(0, .int .i64 n), (5, .bool false)] (by first | simp [hg1] | rfl) ?_
    refine OI_static 7 [(2, .bool false)] (by kernel_rfl) ?_
    refine OI_end rfl ?_
    refine X_then ?_
    refine V_ret ?_
    exact X_return (.bool false) rfl ⟨by congr 2; simp only [Bool.decide_and]; by_cases h1 : 0 ≤ n <;> simp [h1] <;> omega, rfl⟩

theorem account_in (F : Nat → Prop) (l : Nat) (xs : List Acc) (cs : List Ci) (j : Nat) (w : World) (h : Led F w l xs cs) (hj : j < 10) : Calls Try.prog 34 #[.pointer (some ⟨l, 0, none⟩), .int .i64 (j : Int)] w fun e w' => e = .returned (.tuple #[.agg (acct xs (j : Int)).cells.toArray, .bool true]) ∧ Keep none_ w w' := by
  obtain ⟨hinv, hFl, hFlt, g, A, cap, D, hat, hG, hAF, hDF, hAD⟩ := h
  have hl := hat.blk
  have hA := hat.sl
  have hllt := hl.lt
  have hAl : ∀ q, inA A q → q ≠ l := fun q hq => (hAF q hq).2
  have hAlt := SlT.lt hA
  have hDl : ∀ q, D q → q ≠ l := fun q hq => (hDF q hq).2
  have hDlt := Grd.lt hG
  have hx10 := hinv.1
  have hK0 : Keep none_ w w := Keep.refl _ _
  have hzhK0 := Keep.size hK0
  refine enterM Try.func34 rfl [.pointer (some ⟨l, 0, none⟩), .int .i64 ((j : Nat) : Int)] 29 rfl rfl rfl ?_
  refine V_pick [(0, .pointer (some ⟨l, 0, none⟩)), (1, .int .i64 ((j : Nat) : Int))] rfl ?_
  refine V_seq ?_
  refine V_region ?_
  refine OI_alloc 68 (.agg #[.int .i64 0, .int .i64 0]) [.int .i64 0, .int .i64 0] (some 4) (by kernel_rfl) (by kernel_rfl) (by kernel_rfl) ?_
  intro b1 w1 e1 hb1 k1 z1
  have hsz2 := Keep.size k1
  replace hl := hl.keep k1 (fun f => f)
  have hllt := hl.lt
  replace hA := SlT.keep0 hA k1
  replace hG := Grd.keep hG k1 (fun _ _ f => f)
  replace hK0 := Keep.tr hK0 (Keep.ofNone k1); have hzhK0 := Keep.size hK0
  have hb1lt := hb1.lt
  refine OI_static 2 [(0, .pointer (some ⟨l, 0, none⟩)), (1, .int .i64 ((j : Nat) : Int)), (4, .pointer (some ⟨b1, 0, none⟩))] (by kernel_rfl) ?_
  refine OI_end rfl ?_
  refine X_then ?_
  refine V_seq ?_
  refine V_seq ?_
  refine V_region ?_
  refine OI_static 7 [(0, .pointer (some ⟨l, 0, none⟩)), (1, .int .i64 ((j : Nat) : Int)), (4, .pointer (some ⟨b1, 0, none⟩)), (12, .bool (decide (((j : Nat) : Int) < 0)))] (by kernel_rfl) ?_
  by_cases hg3 : ((j : Nat) : Int) < 0
  · skip
    exact (by omega : False).elim
  · skip
    refine OI_eq [(0, .pointer (some ⟨l, 0, none⟩)), (1, .int .i64 ((j : Nat) : Int)), (4, .pointer (some ⟨b1, 0, none⟩)), (12, .bool false)] (by first | simp [hg3] | rfl) ?_
    refine OI_static 11 [(0, .pointer (some ⟨l, 0, none⟩)), (1, .int .i64 ((j : Nat) : Int)), (4, .pointer (some ⟨b1, 0, none⟩)), (12, .bool false), (13, .int .i64 ((j : Nat) : Int)), (16, .pointer (some ⟨l, 0, none⟩))] (by kernel_rfl) ?_
    refine OI_cell 64 (.tmp 16) 0 (.slice A xs.length cap) (some 17) (by kernel_rfl) (by kernel_rfl) hl (m := 1) (by kernel_rfl) rfl ?_
    refine OI_static 15 [(0, .pointer (some ⟨l, 0, none⟩)), (1, .int .i64 ((j : Nat) : Int)), (4, .pointer (some ⟨b1, 0, none⟩)), (20, .bool (decide (((j : Nat) : Int) ≥ ((xs.length : Nat) : Int))))] (by kernel_rfl) ?_
    refine OI_end rfl ?_
    refine X_then ?_
    refine V_if (((j : Nat) : Int) ≥ ((xs.length : Nat) : Int)) (by kernel_rfl) (fun hc4 => ?_) (fun hc4 => ?_)
    · skip
      exact (by omega : False).elim
    · skip
      refine V_skip ?_
      refine X_then ?_
      refine V_seq ?_
      refine V_region ?_
      refine OI_static 3 [(1, .int .i64 ((j : Nat) : Int)), (4, .pointer (some ⟨b1, 0, none⟩)), (24, .pointer (some ⟨l, 0, none⟩))] (by kernel_rfl) ?_
      refine OI_cell 64 (.tmp 24) 0 (.slice A xs.length cap) (some 25) (by kernel_rfl) (by kernel_rfl) hl (m := 1) (by kernel_rfl) rfl ?_
      refine OI_static 5 [(4, .pointer (some ⟨b1, 0, none⟩)), (25, .slice A xs.length cap), (26, .int .i64 ((j : Nat) : Int))] (by kernel_rfl) ?_
      obtain ⟨b5, o5, L5, T5, rfl, hat5⟩ := SlT.open_ hA (by first | omega | (simp only [List.length_map]; omega) | (simp; done) | (simp; omega))
      have hb5lt := hat5.blk.lt
      have hob6 := hAl b5 ⟨_, rfl, rfl⟩
      have hob7 := hAlt b5 ⟨_, rfl, rfl⟩
      have hne8 : ∀ q, D q → q ≠ b5 := fun q hq hs => (fun q h1 h2 => hAD q h2 h1) q hq ⟨_, rfl, hs⟩
      have own9 := fun q hq => And.intro (hDl q hq) (hne8 q hq)
      refine OI_pure (some 27) (.indexAddr 64 (.tmp 25) (.tmp 26)) (by kernel_rfl) (pure_idxN (b := b5) (o := o5) (len := xs.length) (cap := cap) (kd := .i64) (j := j) (E := 68) (sz := 2) (by_ := 16) (by kernel_rfl) (by kernel_rfl) (by kernel_rfl) (by omega)) ?_
      obtain ⟨x10, hx11⟩ : ∃ x, xs[j]? = some x := ⟨_, List.getElem?_eq_getElem (by first | omega | (simp only [List.length_map]; omega))⟩
      refine OI_agg 68 (.tmp 27) (o5 + j * 2) (Acc.cells x10) (some 28) (by kernel_rfl) (by kernel_rfl) hat5.blk (m := 2) (by kernel_rfl) (At.elem' hat5 (es_at hx11)) (At.len hat5 (es_at hx11)) ?_
      refine OI_set (m := 2) (kd := true) 68 (.tmp 4) (.tmp 28) 0 (.agg (Acc.cells x10).toArray) (Acc.cells x10) none (by kernel_rfl) (by kernel_rfl) (by kernel_rfl) hb1 (by kernel_rfl) rfl (Acc.len _) (Nat.le_of_ble_eq_true (by kernel_rfl)) (Acc.one _) ?_
      intro w12 hb1_15 hk13 hz14
      replace hb1_15 : Blk w12 b1 (Acc.cells x10) 68 := (by rwa [over_whole (by rw [Acc.len]; rfl)] at hb1_15)
      have hsz16 := Keep.size hk13
      replace hl := hl.keep hk13 (by show ¬ (_ = _); omega)
      have hllt := hl.lt
      replace hat5 := hat5.keep hk13 (by show ¬ (_ = _); omega)
      have hb5lt := hat5.blk.lt
      replace hG := Grd.keep hG hk13 (fun q hq hs => by have hs : q = b1 := hs; have g0 := own9 q hq; have g1 := hDlt q hq; omega)
      replace hK0 := Keep.fresh hK0 hk13 (by intro i hi hs; first | exact hs | exact Or.inl hs | exact Or.inr hs | (exfalso; have hs2 : i = b1 := hs; omega)); have hzhK0 := Keep.size hK0
      refine OI_static 9 [(4, .pointer (some ⟨b1, 0, none⟩)), (5, .bool true)] (by kernel_rfl) ?_
      refine OI_end rfl ?_
      refine X_then ?_
      refine V_ret ?_
      exact leave0 (.tuple #[.agg (Acc.cells x10).toArray, .bool true]) (.inl rfl) (res_agg_tmp (m := 2) rfl rfl rfl (by kernel_rfl) hb1_15 rfl) ⟨by rw [acct_in hx11 hj], hK0⟩

theorem account_out (F : Nat → Prop) (l : Nat) (xs : List Acc) (cs : List Ci) (a : Int) (w : World) (h : Led F w l xs cs) (ha : ¬ (0 ≤ a ∧ a < 10)) : Calls Try.prog 34 #[.pointer (some ⟨l, 0, none⟩), .int .i64 a] w fun e w' => e = .returned (.tuple #[.agg (acct xs a).cells.toArray, .bool false]) ∧ Keep none_ w w' := by
  obtain ⟨hinv, hFl, hFlt, g, A, cap, D, hat, hG, hAF, hDF, hAD⟩ := h
  have hl := hat.blk
  have hA := hat.sl
  have hllt := hl.lt
  have hAl : ∀ q, inA A q → q ≠ l := fun q hq => (hAF q hq).2
  have hAlt := SlT.lt hA
  have hDl : ∀ q, D q → q ≠ l := fun q hq => (hDF q hq).2
  have hDlt := Grd.lt hG
  have hx10 := hinv.1
  have hK0 : Keep none_ w w := Keep.refl _ _
  have hzhK0 := Keep.size hK0
  refine enterM Try.func34 rfl [.pointer (some ⟨l, 0, none⟩), .int .i64 a] 29 rfl rfl rfl ?_
  refine V_pick [(0, .pointer (some ⟨l, 0, none⟩)), (1, .int .i64 a)] rfl ?_
  refine V_seq ?_
  refine V_region ?_
  refine OI_alloc 68 (.agg #[.int .i64 0, .int .i64 0]) [.int .i64 0, .int .i64 0] (some 4) (by kernel_rfl) (by kernel_rfl) (by kernel_rfl) ?_
  intro b1 w1 e1 hb1 k1 z1
  have hsz2 := Keep.size k1
  replace hl := hl.keep k1 (fun f => f)
  have hllt := hl.lt
  replace hA := SlT.keep0 hA k1
  replace hG := Grd.keep hG k1 (fun _ _ f => f)
  replace hK0 := Keep.tr hK0 (Keep.ofNone k1); have hzhK0 := Keep.size hK0
  have hb1lt := hb1.lt
  refine OI_static 2 [(0, .pointer (some ⟨l, 0, none⟩)), (1, .int .i64 a), (4, .pointer (some ⟨b1, 0, none⟩))] (by kernel_rfl) ?_
  refine OI_end rfl ?_
  refine X_then ?_
  refine V_seq ?_
  refine V_seq ?_
  refine V_region ?_
  refine OI_static 7 [(0, .pointer (some ⟨l, 0, none⟩)), (1, .int .i64 a), (4, .pointer (some ⟨b1, 0, none⟩)), (12, .bool (decide (a < 0)))] (by kernel_rfl) ?_
  by_cases hg3 : a < 0
  · skip
    refine OI_eq [(0, .pointer (some ⟨l, 0, none⟩)), (1, .int .i64 a), (4, .pointer (some ⟨b1, 0, none⟩)), (12, .bool true)] (by first | simp [hg3] | rfl) ?_
    refine OI_static 15 [(0, .pointer (some ⟨l, 0, none⟩)), (1, .int .i64 a), (4, .pointer (some ⟨b1, 0, none⟩)), (20, .bool true)] (by kernel_rfl) ?_
    refine OI_end rfl ?_
    refine X_then ?_
    refine V_true rfl ?_
    refine V_seq ?_
    refine V_region ?_
    refine OI_static 1 [(4, .pointer (some ⟨b1, 0, none⟩)), (21, .agg #[.int .i64 0, .int .i64 0])] (by kernel_rfl) ?_
    refine OI_set (m := 2) (kd := true) 68 (.tmp 4) (.tmp 21) 0 (.agg #[.int .i64 0, .int .i64 0]) [.int .i64 0, .int .i64 0] none (by kernel_rfl) (by kernel_rfl) (by kernel_rfl) hb1 (by kernel_rfl) (by kernel_rfl) (by kernel_rfl) (Nat.le_of_ble_eq_true (by kernel_rfl)) (by simp [Value.oneCell']) ?_
    intro w4 hb1_7 hk5 hz6
    replace hb1_7 : Blk w4 b1 [.int .i64 0, .int .i64 0] 68 := hb1_7
    have hsz8 := Keep.size hk5
    replace hl := hl.keep hk5 (by show ¬ (_ = _); omega)
    have hllt := hl.lt
    replace hA := SlT.keep hA hk5 (fun q hq hs => by have hs : q = b1 := hs; have g0 := hAl q hq; have g1 := hAlt q hq; omega)
    replace hG := Grd.keep hG hk5 (fun q hq hs => by have hs : q = b1 := hs; have g0 := hDl q hq; have g1 := hDlt q hq; omega)
    replace hK0 := Keep.fresh hK0 hk5 (by intro i hi hs; first | exact hs | exact Or.inl hs | exact Or.inr hs | (exfalso; have hs2 : i = b1 := hs; omega)); have hzhK0 := Keep.size hK0
    refine OI_static 3 [(4, .pointer (some ⟨b1, 0, none⟩)), (5, .bool false)] (by kernel_rfl) ?_
    refine OI_end rfl ?_
    refine X_then ?_
    refine V_ret ?_
    refine X_ret_then ?_
    exact leave0 (.tuple #[.agg [.int .i64 0, .int .i64 0].toArray, .bool false]) (.inl rfl) (res_agg_tmp (m := 2) rfl rfl rfl (by kernel_rfl) hb1_7 rfl) ⟨by rw [acct_out ha]; rfl, hK0⟩
  · skip
    refine OI_eq [(0, .pointer (some ⟨l, 0, none⟩)), (1, .int .i64 a), (4, .pointer (some ⟨b1, 0, none⟩)), (12, .bool false)] (by first | simp [hg3] | rfl) ?_
    refine OI_static 11 [(0, .pointer (some ⟨l, 0, none⟩)), (1, .int .i64 a), (4, .pointer (some ⟨b1, 0, none⟩)), (12, .bool false), (13, .int .i64 a), (16, .pointer (some ⟨l, 0, none⟩))] (by kernel_rfl) ?_
    refine OI_cell 64 (.tmp 16) 0 (.slice A xs.length cap) (some 17) (by kernel_rfl) (by kernel_rfl) hl (m := 1) (by kernel_rfl) rfl ?_
    refine OI_static 15 [(0, .pointer (some ⟨l, 0, none⟩)), (1, .int .i64 a), (4, .pointer (some ⟨b1, 0, none⟩)), (20, .bool (decide (a ≥ ((xs.length : Nat) : Int))))] (by kernel_rfl) ?_
    refine OI_end rfl ?_
    refine X_then ?_
    refine V_if (a ≥ ((xs.length : Nat) : Int)) (by kernel_rfl) (fun hc9 => ?_) (fun hc9 => ?_)
    · skip
      refine V_seq ?_
      refine V_region ?_
      refine OI_static 1 [(4, .pointer (some ⟨b1, 0, none⟩)), (21, .agg #[.int .i64 0, .int .i64 0])] (by kernel_rfl) ?_
      refine OI_set (m := 2) (kd := true) 68 (.tmp 4) (.tmp 21) 0 (.agg #[.int .i64 0, .int .i64 0]) [.int .i64 0, .int .i64 0] none (by kernel_rfl) (by kernel_rfl) (by kernel_rfl) hb1 (by kernel_rfl) (by kernel_rfl) (by kernel_rfl) (Nat.le_of_ble_eq_true (by kernel_rfl)) (by simp [Value.oneCell']) ?_
      intro w10 hb1_13 hk11 hz12
      replace hb1_13 : Blk w10 b1 [.int .i64 0, .int .i64 0] 68 := hb1_13
      have hsz14 := Keep.size hk11
      replace hl := hl.keep hk11 (by show ¬ (_ = _); omega)
      have hllt := hl.lt
      replace hA := SlT.keep hA hk11 (fun q hq hs => by have hs : q = b1 := hs; have g0 := hAl q hq; have g1 := hAlt q hq; omega)
      replace hG := Grd.keep hG hk11 (fun q hq hs => by have hs : q = b1 := hs; have g0 := hDl q hq; have g1 := hDlt q hq; omega)
      replace hK0 := Keep.fresh hK0 hk11 (by intro i hi hs; first | exact hs | exact Or.inl hs | exact Or.inr hs | (exfalso; have hs2 : i = b1 := hs; omega)); have hzhK0 := Keep.size hK0
      refine OI_static 3 [(4, .pointer (some ⟨b1, 0, none⟩)), (5, .bool false)] (by kernel_rfl) ?_
      refine OI_end rfl ?_
      refine X_then ?_
      refine V_ret ?_
      refine X_ret_then ?_
      exact leave0 (.tuple #[.agg [.int .i64 0, .int .i64 0].toArray, .bool false]) (.inl rfl) (res_agg_tmp (m := 2) rfl rfl rfl (by kernel_rfl) hb1_13 rfl) ⟨by rw [acct_out ha]; rfl, hK0⟩
    · skip
      exact (by omega : False).elim

theorem account_nil (a : Int) (w : World) : Calls Try.prog 34 #[.pointer none, .int .i64 a] w fun e w' => e = .returned (.tuple #[.agg #[.int .i64 0, .int .i64 0], .bool false]) ∧ Keep none_ w w' := by
  have hK0 : Keep none_ w w := Keep.refl _ _
  have hzhK0 := Keep.size hK0
  refine enterM Try.func34 rfl [.pointer none, .int .i64 a] 29 rfl rfl rfl ?_
  refine V_pick [(0, .pointer none), (1, .int .i64 a)] rfl ?_
  refine V_seq ?_
  refine V_region ?_
  refine OI_alloc 68 (.agg #[.int .i64 0, .int .i64 0]) [.int .i64 0, .int .i64 0] (some 4) (by kernel_rfl) (by kernel_rfl) (by kernel_rfl) ?_
  intro b1 w1 e1 hb1 k1 z1
  have hsz2 := Keep.size k1
  replace hK0 := Keep.tr hK0 (Keep.ofNone k1); have hzhK0 := Keep.size hK0
  have hb1lt := hb1.lt
  refine OI_static 2 [(0, .pointer none), (1, .int .i64 a), (4, .pointer (some ⟨b1, 0, none⟩))] (by kernel_rfl) ?_
  refine OI_end rfl ?_
  refine X_then ?_
  refine V_seq ?_
  refine V_seq ?_
  refine V_region ?_
  refine OI_static 15 [(0, .pointer none), (1, .int .i64 a), (4, .pointer (some ⟨b1, 0, none⟩)), (20, .bool true)] (by kernel_rfl) ?_
  refine OI_end rfl ?_
  refine X_then ?_
  refine V_true rfl ?_
  refine V_seq ?_
  refine V_region ?_
  refine OI_static 1 [(4, .pointer (some ⟨b1, 0, none⟩)), (21, .agg #[.int .i64 0, .int .i64 0])] (by kernel_rfl) ?_
  refine OI_set (m := 2) (kd := true) 68 (.tmp 4) (.tmp 21) 0 (.agg #[.int .i64 0, .int .i64 0]) [.int .i64 0, .int .i64 0] none (by kernel_rfl) (by kernel_rfl) (by kernel_rfl) hb1 (by kernel_rfl) (by kernel_rfl) (by kernel_rfl) (Nat.le_of_ble_eq_true (by kernel_rfl)) (by simp [Value.oneCell']) ?_
  intro w3 hb1_6 hk4 hz5
  replace hb1_6 : Blk w3 b1 [.int .i64 0, .int .i64 0] 68 := hb1_6
  have hsz7 := Keep.size hk4
  replace hK0 := Keep.fresh hK0 hk4 (by intro i hi hs; first | exact hs | exact Or.inl hs | exact Or.inr hs | (exfalso; have hs2 : i = b1 := hs; omega)); have hzhK0 := Keep.size hK0
  refine OI_static 3 [(4, .pointer (some ⟨b1, 0, none⟩)), (5, .bool false)] (by kernel_rfl) ?_
  refine OI_end rfl ?_
  refine X_then ?_
  refine V_ret ?_
  refine X_ret_then ?_
  exact leave0 (.tuple #[.agg [.int .i64 0, .int .i64 0].toArray, .bool false]) (.inl rfl) (res_agg_tmp (m := 2) rfl rfl rfl (by kernel_rfl) hb1_6 rfl) ⟨rfl, hK0⟩

theorem account_spec (F : Nat → Prop) (l : Nat) (xs : List Acc) (cs : List Ci) (a : Int) (w : World) (h : Led F w l xs cs) : Calls Try.prog 34 #[.pointer (some ⟨l, 0, none⟩), .int .i64 a] w fun e w' => e = .returned (.tuple #[.agg (acct xs a).cells.toArray, .bool (isA a)]) ∧ Keep none_ w w' := by
  by_cases ha : 0 ≤ a ∧ a < 10
  · obtain ⟨j, rfl⟩ : ∃ j : Nat, a = j := ⟨a.toNat, by omega⟩
    rw [isA_in (by omega)]
    exact account_in F l xs cs j w h (by omega)
  · rw [isA_out ha]
    exact account_out F l xs cs a w h ha
end Go.Al
