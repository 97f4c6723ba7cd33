/-
  Walks of the laws of ledger: what is free and what is locked.
-/
import Derived.Test.YtmflbilhdoiihaaLe17
namespace Go.Al
open Go Go.RowKit Go.Proofs
/-! ### What is free never falls below what is locked -/
theorem lockM_le : ∀ (l : List (Int × Int)) (m b : Int), lockM l m ≤ b ↔ m ≤ b ∧ ∀ q ∈ l, q.2 ≤ b
  | [], m, b => by simp [lockM]
  | q :: l, m, b => by
    simp only [lockM]
    rw [lockM_le l _ b]
    simp only [List.mem_cons, forall_eq_or_imp]
    split <;> constructor <;> rintro ⟨h1, h2⟩
    · exact ⟨by omega, h1, h2⟩
    · exact ⟨h2.1, h2.2⟩
    · exact ⟨h1, by omega, h2⟩
    · exact ⟨h1, h2.2⟩
theorem lockedL_le (cs : List Ci) (a b : Int) : lockedL cs a ≤ b ↔ 0 ≤ b ∧ ∀ c ∈ cs, c.a = a → c.v ≤ b := by
  unfold lockedL rowL
  rw [lockM_le]
  constructor
  · rintro ⟨h1, h2⟩
    exact ⟨h1, fun c hc ha => h2 (c.b, c.v) (List.mem_map.2 ⟨c, List.mem_filter.2 ⟨hc, by simp [ha]⟩, rfl⟩)⟩
  · rintro ⟨h1, h2⟩
    refine ⟨h1, fun q hq => ?_⟩
    obtain ⟨c, hc, rfl⟩ := List.mem_map.1 hq
    obtain ⟨h3, h4⟩ := List.mem_filter.1 hc
    exact h2 c h3 (by simpa using h4)
theorem setC_mem2 {a b v : Int} {y : Ci} : ∀ {cs : List Ci}, y ∈ setC a b v cs → y = ⟨a, b, v⟩ ∨ y ∈ cs
  | [], h => by simp only [setC, List.mem_singleton] at h; exact .inl h
  | x :: l, h => by
    simp only [setC] at h
    split at h
    · rcases List.mem_cons.1 h with h | h
      · exact .inl h
      · exact .inr (List.mem_cons_of_mem _ h)
    · split at h
      · rcases List.mem_cons.1 h with rfl | h
        · exact .inr (List.mem_cons_self ..)
        · exact (setC_mem2 h).imp id (List.mem_cons_of_mem _)
      · rcases List.mem_cons.1 h with h | h
        · exact .inl h
        · exact .inr h
theorem delC_mem2 {a b : Int} {y : Ci} : ∀ {cs : List Ci}, y ∈ delC a b cs → y ∈ cs
  | [], h => by simp [delC] at h
  | x :: l, h => by
    simp only [delC] at h
    split at h
    · exact List.mem_cons_of_mem _ h
    · rcases List.mem_cons.1 h with rfl | h
      · exact List.mem_cons_self ..
      · exact List.mem_cons_of_mem _ (delC_mem2 h)
def GX (X : List Acc) (C : List Ci) : Prop := ∀ a, lockedL C a ≤ (acct X a).free
theorem g_lock {X : List Acc} {C : List Ci} (hi : Inv X) (h : GX X C) (a i n : Int) (hn : n ≤ (acct X a).free) : GX X (lockC C a i n) := by
  intro c
  rw [lockedL_le]
  refine ⟨(acct_bnd hi c).1, fun y hy hc => ?_⟩
  have h2 := (lockedL_le C c _).1 (h c)
  unfold lockC at hy
  split at hy
  · split at hy
    · exact h2.2 y (delC_mem2 hy) hc
    · rcases setC_mem2 hy with rfl | hy
      · simp only at hc; subst hc; exact hn
      · exact h2.2 y hy hc
  · exact h2.2 y hy hc
theorem acct_set {xs : List Acc} {a : Int} (ha : isA a = true) (hl : xs.length = 10) (y : Acc) (c : Int) : acct (setA xs a y) c = if c = a then y else acct xs c := by
  split
  · rename_i h; subst h; exact (tot_setA ha hl y).2.2
  · rename_i h; exact acct_other y ha (fun he => h he.symm)
theorem g_sub {X : List Acc} {C : List Ci} (hl : X.length = 10) (h : GX X C) {a n : Int} (ha : isA a = true) (hn : 0 ≤ n) (hs : n > 0 → lockedL C a ≤ (acct X a).free - n) : GX (subF X a n) C ∧ (subF X a n).length = 10 := by
  refine ⟨fun c => ?_, (tot_setA ha hl _).2.1⟩
  unfold subF
  rw [acct_set ha hl]
  split
  · rename_i hc; subst hc
    show _ ≤ (acct X c).free - n
    rcases Int.lt_or_eq_of_le hn with h0 | h0
    · exact hs h0
    · have := h c; omega
  · exact h c
theorem g_add {X : List Acc} {C : List Ci} (hl : X.length = 10) (h : GX X C) {a n : Int} (ha : isA a = true) (hn : 0 ≤ n) : GX (addF X a n) C := by
  intro c
  unfold addF
  rw [acct_set ha hl]
  split
  · rename_i hc; subst hc
    show _ ≤ (acct X c).free + n
    have := h c; omega
  · exact h c
theorem g_held {X : List Acc} {C : List Ci} (hl : X.length = 10) (h : GX X C) {a : Int} (ha : isA a = true) (v : Int) : GX (setA X a (Acc.mk (acct X a).free v)) C := by
  intro c
  rw [acct_set ha hl]
  split
  · rename_i hc; subst hc; exact h c
  · exact h c
theorem g_trans {X : List Acc} {C : List Ci} (hi : Inv X) (h : GX X C) (a b n : Int) : GX (transX X C a b n) C := by
  unfold transX
  split
  · rename_i hh
    obtain ⟨h1, h2, _, _, h3⟩ := spends_ok hi hh.2
    obtain ⟨h4, h5⟩ := g_sub hi.1 h h1 h2 h3
    exact g_add h5 h4 hh.1 h2
  · exact h
theorem g_res {X : List Acc} {C : List Ci} (hi : Inv X) (h : GX X C) (a n : Int) : GX (resX X C a n) C := by
  unfold resX
  split
  · rename_i hh
    obtain ⟨h1, h2, _, _, h3⟩ := spends_ok hi hh
    obtain ⟨h4, h5⟩ := g_sub hi.1 h h1 h2 h3
    exact g_held h5 h4 h1 _
  · exact h
theorem g_burn {X : List Acc} {C : List Ci} (hi : Inv X) (h : GX X C) (a n : Int) : GX (burnX X C a n) C := by
  unfold burnX
  split
  · rename_i hh
    obtain ⟨h1, h2, _, _, h3⟩ := spends_ok hi hh
    exact (g_sub hi.1 h h1 h2 h3).1
  · exact h
theorem g_tk {X : List Acc} {C : List Ci} (hi : Inv X) (h : GX X C) (a n : Int) : GX (tkX X a n) C := by
  unfold tkX
  split
  · rename_i ha; exact g_held hi.1 h ha _
  · exact h
theorem g_rel {X : List Acc} {C : List Ci} (hi : Inv X) (h : GX X C) (a n : Int) : GX (relX X a n) C := by
  unfold relX
  split
  · rename_i hh; exact g_add (tkX_len hi a n) (g_tk hi h a n) (tkN_pos hh) (by omega)
  · exact g_tk hi h a n
theorem g_sl {X : List Acc} {C : List Ci} (hi : Inv X) (h : GX X C) (a n : Int) : GX (slX X a n) C := by
  unfold slX
  split
  · exact g_add (tkX_len hi a n) (g_tk hi h a n) isA0 (by omega)
  · exact g_tk hi h a n
theorem g_new {fs : List Int} (h : fs.length ≤ 10) : GX (newX (msk fs) 10) [] := fun a => by
  rw [locked0]
  have hi : Inv (newX (msk fs) 10) := ⟨newX_len _ _, newX_nn (fun k x hk hx => (msk_ok h).2.1 x (List.mem_of_getElem? hx)), (msk_ok h).2.2⟩
  exact (acct_bnd hi a).1

set_option maxHeartbeats 4000000 in
set_option maxRecDepth 10000 in
theorem walk_LedgerGuards (A B : Option Addr) (cap capb : Nat) (fs : List Int) (xs : List Ac4) (w : World) (hA0 : ArgT w 1 intc A cap fs) (hB0 : ArgT w 4 Ac4.cells B capb xs) (hcap : fs.length ≤ 9223372036854775807) (hcapb : xs.length ≤ 9223372036854775807) : Calls Try.prog 10 #[.slice A fs.length cap, .slice B xs.length capb] w fun e w' => e = .returned (.bool true) ∧ Keep none_ w w' := by
  have hA := hA0
  have hB := hB0
  have hK0 : Keep none_ w w := Keep.refl _ _
  have hzhK0 := Keep.size hK0
  refine enterV Try.func10 rfl [.slice A fs.length cap, .slice B xs.length capb] 108 rfl rfl rfl ?_
  refine V_pick [(0, .slice A fs.length cap), (1, .slice B xs.length capb)] rfl ?_
  refine V_seq ?_
  refine V_region ?_
  refine OI_static 1 [(0, .slice A fs.length cap), (1, .slice B xs.length capb)] (by kernel_rfl) ?_
  refine OI_end rfl ?_
  refine X_then ?_
  refine V_seq ?_
  refine V_seq ?_
  refine V_region ?_
  refine OI_static 4 [(0, .slice A fs.length cap), (1, .slice B xs.length capb), (12, .bool (decide (((fs.length : Nat) : Int) > 10)))] (by kernel_rfl) ?_
  by_cases hg1 : ((fs.length : Nat) : Int) > 10
  · skip
    refine OI_eq [(0, .slice A fs.length cap), (1, .slice B xs.length capb), (12, .bool true)] (by first | simp [hg1] | rfl) ?_
    refine OI_static 8 [(0, .slice A fs.length cap), (1, .slice B xs.length capb), (16, .bool true)] (by kernel_rfl) ?_
    refine OI_end rfl ?_
    refine X_then ?_
    refine V_true rfl ?_
    refine V_seq ?_
    refine V_region ?_
    refine OI_static 1 [(4, .bool true)] (by kernel_rfl) ?_
    refine OI_end rfl ?_
    refine X_then ?_
    refine V_ret ?_
    refine X_ret_then ?_
    exact X_return (.bool true) rfl ⟨rfl, hK0⟩
  · skip
    refine OI_eq [(0, .slice A fs.length cap), (1, .slice B xs.length capb), (12, .bool false)] (by first | simp [hg1] | rfl) ?_
    refine OI_static 8 [(0, .slice A fs.length cap), (1, .slice B xs.length capb), (16, .bool (decide (((xs.length : Nat) : Int) > 10000)))] (by kernel_rfl) ?_
    refine OI_end rfl ?_
    refine X_then ?_
    refine V_if (((xs.length : Nat) : Int) > 10000) (by kernel_rfl) (fun hc2 => ?_) (fun hc2 => ?_)
    · skip
      refine V_seq ?_
      refine V_region ?_
      refine OI_static 1 [(4, .bool true)] (by kernel_rfl) ?_
      refine OI_end rfl ?_
      refine X_then ?_
      refine V_ret ?_
      refine X_ret_then ?_
      exact X_return (.bool true) rfl ⟨rfl, hK0⟩
    · skip
      refine V_skip ?_
      refine X_then ?_
      refine V_seq ?_
      refine V_region ?_
      refine OI_static 1 [(1, .slice B xs.length capb), (17, .slice A fs.length cap)] (by kernel_rfl) ?_
      refine OI_call { callee := (Callee.value (Operand.func 25)), args := #[(Operand.tmp 17)], argTypes := #[26] } 25 #[.slice A fs.length cap] (some 18) (by kernel_rfl) (by kernel_rfl) (by kernel_rfl) (begin_spec A cap fs _ hA (by omega)) ?_
      rintro _ w3 ⟨l5, F6, rfl, ho7, hk4, hge8⟩
      refine ⟨_, rfl, ?_⟩
      have hsz9 := Keep.size hk4
      replace hA := ArgT.keep0 hA hk4
      replace hB := ArgT.keep0 hB hk4
      replace hK0 := Keep.tr hK0 (Keep.ofNone hk4); have hzhK0 := Keep.size hK0
      have own10 : ∀ q, F6 q → w.heap.size ≤ q := fun q hq => by have h1 := hge8 q hq; omega
      have lt11 := Led.lt ho7
      have hl5lt : l5 < w3.heap.size := Led.lt ho7 _ (Led.at_ ho7)
      have hl5ge := hge8 _ (Led.at_ ho7)
      refine OI_static 3 [(1, .slice B xs.length capb), (5, .pointer (some ⟨l5, 0, none⟩))] (by kernel_rfl) ?_
      refine OI_end rfl ?_
      refine X_then ?_
      refine V_seq ?_
      refine V_seq ?_
      refine V_region ?_
      refine OI_static 2 [(1, .slice B xs.length capb), (5, .pointer (some ⟨l5, 0, none⟩)), (20, .bool false)] (by kernel_rfl) ?_
      refine OI_end rfl ?_
      refine X_then ?_
      refine V_false rfl ?_
      refine V_skip ?_
      refine X_then ?_
      refine V_seq ?_
      refine V_seq ?_
      refine V_region ?_
      refine OI_static 1 [(1, .slice B xs.length capb), (5, .pointer (some ⟨l5, 0, none⟩)), (6, .int .i64 0)] (by kernel_rfl) ?_
      refine OI_end rfl ?_
      refine X_then ?_
      refine V_block ?_
      refine V_pick [(1, .slice B xs.length capb), (5, .pointer (some ⟨l5, 0, none⟩)), (6, .int .i64 0)] rfl ?_
      refine V_loop (fun k wI e => ∃ i : Nat, ∃ X : List Acc, ∃ C : List Ci, ∃ F12 : Nat → Prop, (k + i = min xs.length 100) ∧ (i ≤ 100) ∧ (GX X C) ∧ (C.length ≤ i) ∧ (Led F12 wI l5 X C) ∧ (∀ q, F12 q → w.heap.size ≤ q) ∧ (∀ q, F12 q → F6 q ∨ w3.heap.size ≤ q) ∧ Keep F6 w3 wI ∧ e = [(1, .slice B xs.length capb), (5, .pointer (some ⟨l5, 0, none⟩)), (6, .int .i64 ((i : Nat) : Int))]) (min xs.length 100) ⟨0, (newX (msk fs) 10), [], F6, by omega, by omega, g_new (by omega), by simp, ho7, (fun q hq => by have h1 := own10 q hq; have h2 := lt11 q hq; omega), fun q h => .inl h, Keep.refl _ _, rfl⟩ ?_
      rintro k17 w16 _ ⟨i, X, C, F12, hki, hi9, hg, hcl, ho13, own14, rel15, hk18, rfl⟩
      have hsz19 := Keep.size hk18
      replace hA := ArgT.keep hA hk18 hA0 (fun k hk hs => by have h1 := own10 k hs; have h2 := lt11 k hs; omega)
      replace hB := ArgT.keep hB hk18 hB0 (fun k hk hs => by have h1 := own10 k hs; have h2 := lt11 k hs; omega)
      replace hK0 := Keep.fresh hK0 hk18 (by intro i hi hs; have h1 := own10 i hs; have h2 := lt11 i hs; omega); have hzhK0 := Keep.size hK0
      have hzhk18 := Keep.size hk18
      have lt20 := Led.lt ho13
      have hl5lt : l5 < w16.heap.size := Led.lt ho13 _ (Led.at_ ho13)
      have hinvX := Led.inv ho13
      refine V_seq ?_
      refine V_seq ?_
      refine V_region ?_
      refine OI_static 5 [(1, .slice B xs.length capb), (5, .pointer (some ⟨l5, 0, none⟩)), (6, .int .i64 ((i : Nat) : Int)), (25, .bool (decide (((i : Nat) : Int) < ((xs.length : Nat) : Int))))] (by kernel_rfl) ?_
      by_cases hg21 : ((i : Nat) : Int) < ((xs.length : Nat) : Int)
      · skip
        refine OI_eq [(1, .slice B xs.length capb), (5, .pointer (some ⟨l5, 0, none⟩)), (6, .int .i64 ((i : Nat) : Int)), (25, .bool true)] (by first | simp [hg21] | rfl) ?_
        refine OI_static 8 [(1, .slice B xs.length capb), (5, .pointer (some ⟨l5, 0, none⟩)), (6, .int .i64 ((i : Nat) : Int)), (26, .int .i64 ((i : Nat) : Int)), (27, .bool (decide (((i : Nat) : Int) < 100))), (28, .bool (decide (((i : Nat) : Int) < 100)))] (by kernel_rfl) ?_
        refine OI_end rfl ?_
        refine X_then ?_
        refine V_if (((i : Nat) : Int) < 100) (by kernel_rfl) (fun hc22 => ?_) (fun hc22 => ?_)
        · skip
          refine V_skip ?_
          refine X_then ?_
          refine V_seq ?_
          refine V_block ?_
          refine V_seq ?_
          refine V_region ?_
          refine OI_static 2 [(1, .slice B xs.length capb), (5, .pointer (some ⟨l5, 0, none⟩)), (6, .int .i64 ((i : Nat) : Int)), (26, .int .i64 ((i : Nat) : Int)), (27, .bool (decide (((i : Nat) : Int) < 100))), (31, .slice B xs.length capb), (32, .int .i64 ((i : Nat) : Int))] (by kernel_rfl) ?_
          obtain ⟨b23, o23, L23, rfl, hat23⟩ := ArgT.open_ hB (by first | omega | (simp only [List.length_map]; omega) | (simp; done) | (simp; omega))
          have hb23lt0 := ArgT.lt hB0 (by first | omega | (simp only [List.length_map]; omega) | (simp; done) | (simp; omega))
          have hb23lt := hat23.blk.lt
          refine OI_pure (some 33) (.indexAddr 38 (.tmp 31) (.tmp 32)) (by kernel_rfl) (pure_idxN (b := b23) (o := o23) (len := xs.length) (cap := capb) (kd := .i64) (j := i) (E := 40) (sz := 4) (by_ := 32) (by kernel_rfl) (by kernel_rfl) (by kernel_rfl) (by omega)) ?_
          obtain ⟨x24, hx25⟩ : ∃ x, xs[i]? = some x := ⟨_, List.getElem?_eq_getElem (by first | omega | (simp only [List.length_map]; omega))⟩
          refine OI_aggR 40 (.tmp 33) (o23 + i * 4) (Ac4.cells x24) (some 34) (by kernel_rfl) (by kernel_rfl) hat23.blk (m := 4) (by kernel_rfl) (AtR.elem' hat23 _ _ (es_at hx25)) (AtR.len hat23 (es_at hx25)) ?_
          refine OI_alloc 40 (.agg #[.int .i64 0, .int .i64 0, .int .i64 0, .int .i64 0]) [.int .i64 0, .int .i64 0, .int .i64 0, .int .i64 0] (some 7) (by kernel_rfl) (by kernel_rfl) (by kernel_rfl) ?_
          intro b26 w26 e26 hb26 k26 z26
          have hsz27 := Keep.size k26
          replace hat23 := hat23.keep k26 (fun f => f)
          have hb23lt := hat23.blk.lt
          replace hA := ArgT.keep0 hA k26
          replace hK0 := Keep.tr hK0 (Keep.ofNone k26); have hzhK0 := Keep.size hK0
          replace hk18 := Keep.tr hk18 (Keep.ofNone k26); have hzhk18 := Keep.size hk18
          replace ho13 := Led.keep ho13 k26 (fun _ _ f => f)
          have hb26lt := hb26.lt
          refine OI_set (m := 4) (kd := true) 40 (.tmp 7) (.tmp 34) 0 (.agg (Ac4.cells x24).toArray) (Ac4.cells x24) none (by kernel_rfl) (by kernel_rfl) (by kernel_rfl) hb26 (by kernel_rfl) rfl (Ac4.len _) (Nat.le_of_ble_eq_true (by kernel_rfl)) (Ac4.one _) ?_
          intro w28 hb26_31 hk29 hz30
          replace hb26_31 : Blk w28 b26 (Ac4.cells x24) 40 := (by rwa [over_whole (by rw [Ac4.len]; rfl)] at hb26_31)
          have hsz32 := Keep.size hk29
          replace hat23 := hat23.keep hk29 (by show ¬ (_ = _); omega)
          have hb23lt := hat23.blk.lt
          replace hA := ArgT.keep hA hk29 hA0 (fun k hk hs => by have hs : k = b26 := hs; omega)
          replace hK0 := Keep.fresh hK0 hk29 (by intro i hi hs; first | exact hs | exact Or.inl hs | exact Or.inr hs | (exfalso; have hs2 : i = b26 := hs; omega)); have hzhK0 := Keep.size hK0
          replace hk18 := Keep.fresh hk18 hk29 (by intro i hi hs; first | exact hs | exact Or.inl hs | exact Or.inr hs | (exfalso; have hs2 : i = b26 := hs; omega)); have hzhk18 := Keep.size hk18
          replace ho13 := Led.keep ho13 hk29 (fun q hq hs => by have hs : q = b26 := hs; have g0 := own14 q hq; have g1 := lt20 q hq; omega)
          refine OI_end rfl ?_
          refine X_then ?_
          refine V_seq ?_
          refine V_seq ?_
          refine V_region ?_
          refine OI_static 1 [(1, .slice (some ⟨b23, o23, none⟩) xs.length capb), (5, .pointer (some ⟨l5, 0, none⟩)), (6, .int .i64 ((i : Nat) : Int)), (7, .pointer (some ⟨b26, 0, none⟩)), (26, .int .i64 ((i : Nat) : Int)), (27, .bool (decide (((i : Nat) : Int) < 100))), (35, .pointer (some ⟨b26, 0, none⟩))] (by kernel_rfl) ?_
          refine OI_cell 3 (.tmp 35) 0 (.int .i64 x24.k) (some 36) (by kernel_rfl) (by kernel_rfl) hb26_31 (m := 1) (by kernel_rfl) rfl ?_
          refine OI_end rfl ?_
          refine X_then ?_
          refine V_blockJ (fun wI e => ∃ X2 : List Acc, ∃ C2 : List Ci, ∃ F33 : Nat → Prop, (GX X2 C2) ∧ (C2.length ≤ i + 1) ∧ (Led F33 wI l5 X2 C2) ∧ (∀ q, F33 q → w.heap.size ≤ q ∧ q ≠ b26) ∧ (∀ q, F33 q → F12 q ∨ w28.heap.size ≤ q) ∧ Keep F12 w28 wI ∧ e = [(1, .slice (some ⟨b23, o23, none⟩) xs.length capb), (5, .pointer (some ⟨l5, 0, none⟩)), (6, .int .i64 ((i : Nat) : Int)), (26, .int .i64 ((i : Nat) : Int)), (27, .bool (decide (((i : Nat) : Int) < 100)))]) ?_ ?_
          · skip
            have hk37 : Keep F12 w28 w28 := Keep.refl _ _
            have rel38 : ∀ q, F12 q → F12 q ∨ w28.heap.size ≤ q := fun q h => .inl h
            refine V_seq ?_
            refine V_region ?_
            refine OI_static 2 [(1, .slice (some ⟨b23, o23, none⟩) xs.length capb), (5, .pointer (some ⟨l5, 0, none⟩)), (6, .int .i64 ((i : Nat) : Int)), (7, .pointer (some ⟨b26, 0, none⟩)), (26, .int .i64 ((i : Nat) : Int)), (27, .bool (decide (((i : Nat) : Int) < 100))), (36, .int .i64 x24.k), (37, .bool (decide (x24.k = 1)))] (by kernel_rfl) ?_
            refine OI_end rfl ?_
            refine X_then ?_
            refine V_if (x24.k = 1) (by kernel_rfl) (fun hc39 => ?_) (fun hc39 => ?_)
            · skip
              refine V_region ?_
              refine OI_static 2 [(1, .slice (some ⟨b23, o23, none⟩) xs.length capb), (5, .pointer (some ⟨l5, 0, none⟩)), (6, .int .i64 ((i : Nat) : Int)), (7, .pointer (some ⟨b26, 0, none⟩)), (26, .int .i64 ((i : Nat) : Int)), (27, .bool (decide (((i : Nat) : Int) < 100))), (39, .pointer (some ⟨l5, 0, none⟩)), (40, .pointer (some ⟨b26, 1, none⟩))] (by kernel_rfl) ?_
              refine OI_cell 3 (.tmp 40) 1 (.int .i64 x24.a) (some 41) (by kernel_rfl) (by kernel_rfl) hb26_31 (m := 1) (by kernel_rfl) rfl ?_
              refine OI_static 4 [(1, .slice (some ⟨b23, o23, none⟩) xs.length capb), (5, .pointer (some ⟨l5, 0, none⟩)), (6, .int .i64 ((i : Nat) : Int)), (7, .pointer (some ⟨b26, 0, none⟩)), (26, .int .i64 ((i : Nat) : Int)), (27, .bool (decide (((i : Nat) : Int) < 100))), (39, .pointer (some ⟨l5, 0, none⟩)), (41, .int .i64 x24.a), (42, .pointer (some ⟨b26, 2, none⟩))] (by kernel_rfl) ?_
              refine OI_cell 3 (.tmp 42) 2 (.int .i64 x24.b) (some 43) (by kernel_rfl) (by kernel_rfl) hb26_31 (m := 1) (by kernel_rfl) rfl ?_
              refine OI_static 6 [(1, .slice (some ⟨b23, o23, none⟩) xs.length capb), (5, .pointer (some ⟨l5, 0, none⟩)), (6, .int .i64 ((i : Nat) : Int)), (26, .int .i64 ((i : Nat) : Int)), (27, .bool (decide (((i : Nat) : Int) < 100))), (39, .pointer (some ⟨l5, 0, none⟩)), (41, .int .i64 x24.a), (43, .int .i64 x24.b), (44, .pointer (some ⟨b26, 3, none⟩))] (by kernel_rfl) ?_
              refine OI_cell 3 (.tmp 44) 3 (.int .i64 x24.n) (some 45) (by kernel_rfl) (by kernel_rfl) hb26_31 (m := 1) (by kernel_rfl) rfl ?_
              refine OI_call { callee := (Callee.value (Operand.func 17)), args := #[(Operand.tmp 39), (Operand.tmp 41), (Operand.tmp 43), (Operand.tmp 45)], argTypes := #[22, 3, 3, 3] } 17 #[.pointer (some ⟨l5, 0, none⟩), .int .i64 x24.a, .int .i64 x24.b, .int .i64 x24.n] (some 46) (by kernel_rfl) (by kernel_rfl) (by kernel_rfl) (transfer_spec F12 l5 X C x24.a x24.b x24.n _ ho13) ?_
              rintro _ w42 ⟨rfl, ⟨F44, ho45, hfr46⟩, hk43⟩
              refine ⟨_, rfl, ?_⟩
              have hsz47 := Keep.size hk43
              replace hb26_31 := hb26_31.keep hk43 (fun hs => by have h1 := own14 _ hs; have h2 := lt20 _ hs; omega)
              have hb26lt := hb26_31.lt
              replace hat23 := hat23.keep hk43 (fun hs => by have h1 := own14 _ hs; have h2 := lt20 _ hs; omega)
              have hb23lt := hat23.blk.lt
              replace hA := ArgT.keep hA hk43 hA0 (fun k hk hs => by have h1 := own14 k hs; have h2 := lt20 k hs; omega)
              replace hK0 := Keep.fresh hK0 hk43 (by intro i hi hs; first | exact hs | (exfalso; have h1 := own14 i hs; have h2 := lt20 i hs; omega) | (have h1 := own14 i hs; have h2 := lt20 i hs; show _ ∨ _; omega)); have hzhK0 := Keep.size hK0
              replace hk18 := Keep.fresh hk18 hk43 (fun i hi hs => by rcases rel15 i hs with h | h; exact h; (exfalso; omega)); have hzhk18 := Keep.size hk18
              replace hk37 := Keep.fresh hk37 hk43 (fun i hi hs => by rcases rel38 i hs with h | h; exact h; (exfalso; omega)); have hzhk37 := Keep.size hk37
              have own49 : ∀ q, F44 q → w.heap.size ≤ q ∧ q ≠ b26 := fun q hq => by rcases hfr46 q hq with h | h; (have h1 := own14 q h; have h2 := lt20 q h; omega); omega
              have lt48 := Led.lt ho45
              have rel50 : ∀ q, F44 q → F6 q ∨ w3.heap.size ≤ q := fun q hq => by rcases hfr46 q hq with h | h; exact rel15 q h; exact .inr (by omega)
              have rel51 : ∀ q, F44 q → F12 q ∨ w28.heap.size ≤ q := fun q hq => by rcases hfr46 q hq with h | h; exact rel38 q h; exact .inr (by omega)
              refine OI_end rfl ?_
              refine X_block ?_
              exact X_join [(1, .slice (some ⟨b23, o23, none⟩) xs.length capb), (5, .pointer (some ⟨l5, 0, none⟩)), (6, .int .i64 ((i : Nat) : Int)), (26, .int .i64 ((i : Nat) : Int)), (27, .bool (decide (((i : Nat) : Int) < 100)))] rfl ⟨(transX X C x24.a x24.b x24.n), C, F44, g_trans hinvX hg _ _ _, by omega, ho45, (fun q hq => by have h1 := own49 q hq; have h2 := lt48 q hq; omega), rel51, hk37, rfl⟩
            · skip
              refine V_seq ?_
              refine V_region ?_
              refine OI_static 2 [(1, .slice (some ⟨b23, o23, none⟩) xs.length capb), (5, .pointer (some ⟨l5, 0, none⟩)), (6, .int .i64 ((i : Nat) : Int)), (7, .pointer (some ⟨b26, 0, none⟩)), (26, .int .i64 ((i : Nat) : Int)), (27, .bool (decide (((i : Nat) : Int) < 100))), (36, .int .i64 x24.k), (47, .bool (decide (x24.k = 2)))] (by kernel_rfl) ?_
              refine OI_end rfl ?_
              refine X_then ?_
              refine V_if (x24.k = 2) (by kernel_rfl) (fun hc52 => ?_) (fun hc52 => ?_)
              · skip
                refine V_region ?_
                refine OI_static 2 [(1, .slice (some ⟨b23, o23, none⟩) xs.length capb), (5, .pointer (some ⟨l5, 0, none⟩)), (6, .int .i64 ((i : Nat) : Int)), (7, .pointer (some ⟨b26, 0, none⟩)), (26, .int .i64 ((i : Nat) : Int)), (27, .bool (decide (((i : Nat) : Int) < 100))), (49, .pointer (some ⟨l5, 0, none⟩)), (50, .pointer (some ⟨b26, 1, none⟩))] (by kernel_rfl) ?_
                refine OI_cell 3 (.tmp 50) 1 (.int .i64 x24.a) (some 51) (by kernel_rfl) (by kernel_rfl) hb26_31 (m := 1) (by kernel_rfl) rfl ?_
                refine OI_static 4 [(1, .slice (some ⟨b23, o23, none⟩) xs.length capb), (5, .pointer (some ⟨l5, 0, none⟩)), (6, .int .i64 ((i : Nat) : Int)), (26, .int .i64 ((i : Nat) : Int)), (27, .bool (decide (((i : Nat) : Int) < 100))), (49, .pointer (some ⟨l5, 0, none⟩)), (51, .int .i64 x24.a), (52, .pointer (some ⟨b26, 3, none⟩))] (by kernel_rfl) ?_
                refine OI_cell 3 (.tmp 52) 3 (.int .i64 x24.n) (some 53) (by kernel_rfl) (by kernel_rfl) hb26_31 (m := 1) (by kernel_rfl) rfl ?_
                refine OI_call { callee := (Callee.value (Operand.func 21)), args := #[(Operand.tmp 49), (Operand.tmp 51), (Operand.tmp 53)], argTypes := #[22, 3, 3] } 21 #[.pointer (some ⟨l5, 0, none⟩), .int .i64 x24.a, .int .i64 x24.n] (some 54) (by kernel_rfl) (by kernel_rfl) (by kernel_rfl) (reserve_spec F12 l5 X C x24.a x24.n _ ho13) ?_
                rintro _ w55 ⟨rfl, ⟨F57, ho58, hfr59⟩, hk56⟩
                refine ⟨_, rfl, ?_⟩
                have hsz60 := Keep.size hk56
                replace hb26_31 := hb26_31.keep hk56 (fun hs => by have h1 := own14 _ hs; have h2 := lt20 _ hs; omega)
                have hb26lt := hb26_31.lt
                replace hat23 := hat23.keep hk56 (fun hs => by have h1 := own14 _ hs; have h2 := lt20 _ hs; omega)
                have hb23lt := hat23.blk.lt
                replace hA := ArgT.keep hA hk56 hA0 (fun k hk hs => by have h1 := own14 k hs; have h2 := lt20 k hs; omega)
                replace hK0 := Keep.fresh hK0 hk56 (by intro i hi hs; first | exact hs | (exfalso; have h1 := own14 i hs; have h2 := lt20 i hs; omega) | (have h1 := own14 i hs; have h2 := lt20 i hs; show _ ∨ _; omega)); have hzhK0 := Keep.size hK0
                replace hk18 := Keep.fresh hk18 hk56 (fun i hi hs => by rcases rel15 i hs with h | h; exact h; (exfalso; omega)); have hzhk18 := Keep.size hk18
                replace hk37 := Keep.fresh hk37 hk56 (fun i hi hs => by rcases rel38 i hs with h | h; exact h; (exfalso; omega)); have hzhk37 := Keep.size hk37
                have own62 : ∀ q, F57 q → w.heap.size ≤ q ∧ q ≠ b26 := fun q hq => by rcases hfr59 q hq with h | h; (have h1 := own14 q h; have h2 := lt20 q h; omega); omega
                have lt61 := Led.lt ho58
                have rel63 : ∀ q, F57 q → F6 q ∨ w3.heap.size ≤ q := fun q hq => by rcases hfr59 q hq with h | h; exact rel15 q h; exact .inr (by omega)
                have rel64 : ∀ q, F57 q → F12 q ∨ w28.heap.size ≤ q := fun q hq => by rcases hfr59 q hq with h | h; exact rel38 q h; exact .inr (by omega)
                refine OI_end rfl ?_
                refine X_block ?_
                exact X_join [(1, .slice (some ⟨b23, o23, none⟩) xs.length capb), (5, .pointer (some ⟨l5, 0, none⟩)), (6, .int .i64 ((i : Nat) : Int)), (26, .int .i64 ((i : Nat) : Int)), (27, .bool (decide (((i : Nat) : Int) < 100)))] rfl ⟨(resX X C x24.a x24.n), C, F57, g_res hinvX hg _ _, by omega, ho58, (fun q hq => by have h1 := own62 q hq; have h2 := lt61 q hq; omega), rel64, hk37, rfl⟩
              · skip
                refine V_seq ?_
                refine V_region ?_
                refine OI_static 2 [(1, .slice (some ⟨b23, o23, none⟩) xs.length capb), (5, .pointer (some ⟨l5, 0, none⟩)), (6, .int .i64 ((i : Nat) : Int)), (7, .pointer (some ⟨b26, 0, none⟩)), (26, .int .i64 ((i : Nat) : Int)), (27, .bool (decide (((i : Nat) : Int) < 100))), (36, .int .i64 x24.k), (55, .bool (decide (x24.k = 3)))] (by kernel_rfl) ?_
                refine OI_end rfl ?_
                refine X_then ?_
                refine V_if (x24.k = 3) (by kernel_rfl) (fun hc65 => ?_) (fun hc65 => ?_)
                · skip
                  refine V_region ?_
                  refine OI_static 2 [(1, .slice (some ⟨b23, o23, none⟩) xs.length capb), (5, .pointer (some ⟨l5, 0, none⟩)), (6, .int .i64 ((i : Nat) : Int)), (7, .pointer (some ⟨b26, 0, none⟩)), (26, .int .i64 ((i : Nat) : Int)), (27, .bool (decide (((i : Nat) : Int) < 100))), (57, .pointer (some ⟨l5, 0, none⟩)), (58, .pointer (some ⟨b26, 1, none⟩))] (by kernel_rfl) ?_
                  refine OI_cell 3 (.tmp 58) 1 (.int .i64 x24.a) (some 59) (by kernel_rfl) (by kernel_rfl) hb26_31 (m := 1) (by kernel_rfl) rfl ?_
                  refine OI_static 4 [(1, .slice (some ⟨b23, o23, none⟩) xs.length capb), (5, .pointer (some ⟨l5, 0, none⟩)), (6, .int .i64 ((i : Nat) : Int)), (26, .int .i64 ((i : Nat) : Int)), (27, .bool (decide (((i : Nat) : Int) < 100))), (57, .pointer (some ⟨l5, 0, none⟩)), (59, .int .i64 x24.a), (60, .pointer (some ⟨b26, 3, none⟩))] (by kernel_rfl) ?_
                  refine OI_cell 3 (.tmp 60) 3 (.int .i64 x24.n) (some 61) (by kernel_rfl) (by kernel_rfl) hb26_31 (m := 1) (by kernel_rfl) rfl ?_
                  refine OI_call { callee := (Callee.value (Operand.func 27)), args := #[(Operand.tmp 57), (Operand.tmp 59), (Operand.tmp 61)], argTypes := #[22, 3, 3] } 27 #[.pointer (some ⟨l5, 0, none⟩), .int .i64 x24.a, .int .i64 x24.n] (some 62) (by kernel_rfl) (by kernel_rfl) (by kernel_rfl) (release_spec F12 l5 X C x24.a x24.n _ ho13) ?_
                  rintro _ w68 ⟨rfl, ⟨F70, ho71, hfr72⟩, hk69⟩
                  refine ⟨_, rfl, ?_⟩
                  have hsz73 := Keep.size hk69
                  replace hb26_31 := hb26_31.keep hk69 (fun hs => by have h1 := own14 _ hs; have h2 := lt20 _ hs; omega)
                  have hb26lt := hb26_31.lt
                  replace hat23 := hat23.keep hk69 (fun hs => by have h1 := own14 _ hs; have h2 := lt20 _ hs; omega)
                  have hb23lt := hat23.blk.lt
                  replace hA := ArgT.keep hA hk69 hA0 (fun k hk hs => by have h1 := own14 k hs; have h2 := lt20 k hs; omega)
                  replace hK0 := Keep.fresh hK0 hk69 (by intro i hi hs; first | exact hs | (exfalso; have h1 := own14 i hs; have h2 := lt20 i hs; omega) | (have h1 := own14 i hs; have h2 := lt20 i hs; show _ ∨ _; omega)); have hzhK0 := Keep.size hK0
                  replace hk18 := Keep.fresh hk18 hk69 (fun i hi hs => by rcases rel15 i hs with h | h; exact h; (exfalso; omega)); have hzhk18 := Keep.size hk18
                  replace hk37 := Keep.fresh hk37 hk69 (fun i hi hs => by rcases rel38 i hs with h | h; exact h; (exfalso; omega)); have hzhk37 := Keep.size hk37
                  have own75 : ∀ q, F70 q → w.heap.size ≤ q ∧ q ≠ b26 := fun q hq => by rcases hfr72 q hq with h | h; (have h1 := own14 q h; have h2 := lt20 q h; omega); omega
                  have lt74 := Led.lt ho71
                  have rel76 : ∀ q, F70 q → F6 q ∨ w3.heap.size ≤ q := fun q hq => by rcases hfr72 q hq with h | h; exact rel15 q h; exact .inr (by omega)
                  have rel77 : ∀ q, F70 q → F12 q ∨ w28.heap.size ≤ q := fun q hq => by rcases hfr72 q hq with h | h; exact rel38 q h; exact .inr (by omega)
                  refine OI_end rfl ?_
                  refine X_block ?_
                  exact X_join [(1, .slice (some ⟨b23, o23, none⟩) xs.length capb), (5, .pointer (some ⟨l5, 0, none⟩)), (6, .int .i64 ((i : Nat) : Int)), (26, .int .i64 ((i : Nat) : Int)), (27, .bool (decide (((i : Nat) : Int) < 100)))] rfl ⟨(relX X x24.a x24.n), C, F70, g_rel hinvX hg _ _, by omega, ho71, (fun q hq => by have h1 := own75 q hq; have h2 := lt74 q hq; omega), rel77, hk37, rfl⟩
                · skip
                  refine V_seq ?_
                  refine V_region ?_
                  refine OI_static 2 [(1, .slice (some ⟨b23, o23, none⟩) xs.length capb), (5, .pointer (some ⟨l5, 0, none⟩)), (6, .int .i64 ((i : Nat) : Int)), (7, .pointer (some ⟨b26, 0, none⟩)), (26, .int .i64 ((i : Nat) : Int)), (27, .bool (decide (((i : Nat) : Int) < 100))), (36, .int .i64 x24.k), (63, .bool (decide (x24.k = 4)))] (by kernel_rfl) ?_
                  refine OI_end rfl ?_
                  refine X_then ?_
                  refine V_if (x24.k = 4) (by kernel_rfl) (fun hc78 => ?_) (fun hc78 => ?_)
                  · skip
                    refine V_region ?_
                    refine OI_static 2 [(1, .slice (some ⟨b23, o23, none⟩) xs.length capb), (5, .pointer (some ⟨l5, 0, none⟩)), (6, .int .i64 ((i : Nat) : Int)), (7, .pointer (some ⟨b26, 0, none⟩)), (26, .int .i64 ((i : Nat) : Int)), (27, .bool (decide (((i : Nat) : Int) < 100))), (65, .pointer (some ⟨l5, 0, none⟩)), (66, .pointer (some ⟨b26, 1, none⟩))] (by kernel_rfl) ?_
                    refine OI_cell 3 (.tmp 66) 1 (.int .i64 x24.a) (some 67) (by kernel_rfl) (by kernel_rfl) hb26_31 (m := 1) (by kernel_rfl) rfl ?_
                    refine OI_static 4 [(1, .slice (some ⟨b23, o23, none⟩) xs.length capb), (5, .pointer (some ⟨l5, 0, none⟩)), (6, .int .i64 ((i : Nat) : Int)), (26, .int .i64 ((i : Nat) : Int)), (27, .bool (decide (((i : Nat) : Int) < 100))), (65, .pointer (some ⟨l5, 0, none⟩)), (67, .int .i64 x24.a), (68, .pointer (some ⟨b26, 3, none⟩))] (by kernel_rfl) ?_
                    refine OI_cell 3 (.tmp 68) 3 (.int .i64 x24.n) (some 69) (by kernel_rfl) (by kernel_rfl) hb26_31 (m := 1) (by kernel_rfl) rfl ?_
                    refine OI_call { callee := (Callee.value (Operand.func 26)), args := #[(Operand.tmp 65), (Operand.tmp 67), (Operand.tmp 69)], argTypes := #[22, 3, 3] } 26 #[.pointer (some ⟨l5, 0, none⟩), .int .i64 x24.a, .int .i64 x24.n] (some 70) (by kernel_rfl) (by kernel_rfl) (by kernel_rfl) (slash_spec F12 l5 X C x24.a x24.n _ ho13) ?_
                    rintro _ w81 ⟨rfl, ⟨F83, ho84, hfr85⟩, hk82⟩
                    refine ⟨_, rfl, ?_⟩
                    have hsz86 := Keep.size hk82
                    replace hb26_31 := hb26_31.keep hk82 (fun hs => by have h1 := own14 _ hs; have h2 := lt20 _ hs; omega)
                    have hb26lt := hb26_31.lt
                    replace hat23 := hat23.keep hk82 (fun hs => by have h1 := own14 _ hs; have h2 := lt20 _ hs; omega)
                    have hb23lt := hat23.blk.lt
                    replace hA := ArgT.keep hA hk82 hA0 (fun k hk hs => by have h1 := own14 k hs; have h2 := lt20 k hs; omega)
                    replace hK0 := Keep.fresh hK0 hk82 (by intro i hi hs; first | exact hs | (exfalso; have h1 := own14 i hs; have h2 := lt20 i hs; omega) | (have h1 := own14 i hs; have h2 := lt20 i hs; show _ ∨ _; omega)); have hzhK0 := Keep.size hK0
                    replace hk18 := Keep.fresh hk18 hk82 (fun i hi hs => by rcases rel15 i hs with h | h; exact h; (exfalso; omega)); have hzhk18 := Keep.size hk18
                    replace hk37 := Keep.fresh hk37 hk82 (fun i hi hs => by rcases rel38 i hs with h | h; exact h; (exfalso; omega)); have hzhk37 := Keep.size hk37
                    have own88 : ∀ q, F83 q → w.heap.size ≤ q ∧ q ≠ b26 := fun q hq => by rcases hfr85 q hq with h | h; (have h1 := own14 q h; have h2 := lt20 q h; omega); omega
                    have lt87 := Led.lt ho84
                    have rel89 : ∀ q, F83 q → F6 q ∨ w3.heap.size ≤ q := fun q hq => by rcases hfr85 q hq with h | h; exact rel15 q h; exact .inr (by omega)
                    have rel90 : ∀ q, F83 q → F12 q ∨ w28.heap.size ≤ q := fun q hq => by rcases hfr85 q hq with h | h; exact rel38 q h; exact .inr (by omega)
                    refine OI_end rfl ?_
                    refine X_block ?_
                    exact X_join [(1, .slice (some ⟨b23, o23, none⟩) xs.length capb), (5, .pointer (some ⟨l5, 0, none⟩)), (6, .int .i64 ((i : Nat) : Int)), (26, .int .i64 ((i : Nat) : Int)), (27, .bool (decide (((i : Nat) : Int) < 100)))] rfl ⟨(slX X x24.a x24.n), C, F83, g_sl hinvX hg _ _, by omega, ho84, (fun q hq => by have h1 := own88 q hq; have h2 := lt87 q hq; omega), rel90, hk37, rfl⟩
                  · skip
                    refine V_seq ?_
                    refine V_region ?_
                    refine OI_static 2 [(1, .slice (some ⟨b23, o23, none⟩) xs.length capb), (5, .pointer (some ⟨l5, 0, none⟩)), (6, .int .i64 ((i : Nat) : Int)), (7, .pointer (some ⟨b26, 0, none⟩)), (26, .int .i64 ((i : Nat) : Int)), (27, .bool (decide (((i : Nat) : Int) < 100))), (36, .int .i64 x24.k), (71, .bool (decide (x24.k = 5)))] (by kernel_rfl) ?_
                    refine OI_end rfl ?_
                    refine X_then ?_
                    refine V_if (x24.k = 5) (by kernel_rfl) (fun hc91 => ?_) (fun hc91 => ?_)
                    · skip
                      refine V_seq ?_
                      refine V_draws (acts [5]) none_ [[2, 3, 4, 5, 0, 1, 6]] (by kernel_rfl) (by repeat first | exact sure_body (by rintro _ _ ⟨h, _⟩; exact ⟨_, h⟩) | refine sure_then ?_ | refine sure_block ?_ | refine sure_join ?_) (by kernel_rfl) ?_
                      intro w93 hk92 he94 L hL95
                      have hsz96 := Keep.size hk92
                      replace hb26_31 := hb26_31.keep hk92 (fun f => f)
                      have hb26lt := hb26_31.lt
                      replace hat23 := hat23.keep hk92 (fun f => f)
                      have hb23lt := hat23.blk.lt
                      replace hA := ArgT.keep0 hA hk92
                      replace hK0 := Keep.tr hK0 (Keep.ofNone hk92); have hzhK0 := Keep.size hK0
                      replace hk18 := Keep.tr hk18 (Keep.ofNone hk92); have hzhk18 := Keep.size hk18
                      replace ho13 := Led.keep ho13 hk92 (fun _ _ f => f)
                      replace hk37 := Keep.tr hk37 (Keep.ofNone hk92); have hzhk37 := Keep.size hk37
                      have qhb26_31 := hb26_31
                      have qhat23 := hat23
                      have K97 : Keep none_ w93 w93 := Keep.refl _ _
                      obtain rfl := List.mem_singleton.1 hL95
                      refine GI_static [4, 5, 0, 1, 6] [(1, .slice (some ⟨b23, o23, none⟩) xs.length capb), (5, .pointer (some ⟨l5, 0, none⟩)), (6, .int .i64 ((i : Nat) : Int)), (7, .pointer (some ⟨b26, 0, none⟩)), (26, .int .i64 ((i : Nat) : Int)), (27, .bool (decide (((i : Nat) : Int) < 100))), (75, .pointer (some ⟨l5, 0, none⟩)), (76, .pointer (some ⟨b26, 1, none⟩))] (by kernel_rfl) ?_
                      refine GI_cell 3 (.tmp 76) 1 (.int .i64 x24.a) (some 77) (by kernel_rfl) (by kernel_rfl) (by kernel_rfl) qhb26_31 (fun f => f) (m := 1) (by kernel_rfl) rfl ?_
                      refine GI_call { callee := (Callee.value (Operand.func 20)), args := #[(Operand.tmp 75), (Operand.tmp 77)], argTypes := #[22, 3] } 20 #[.pointer (some ⟨l5, 0, none⟩), .int .i64 x24.a] (some 78) (by kernel_rfl) (by kernel_rfl) (by kernel_rfl) (by kernel_rfl) (free_spec F12 l5 X C x24.a _ ho13) ?_
                      rintro _ w98 ⟨rfl, hk99⟩
                      have K100 := K97.tr (Keep.ofNone hk99)
                      refine ⟨_, rfl, K100, ?_⟩
                      have hzK100 := Keep.size K100
                      have hsz101 := Keep.size hk99
                      replace hb26_31 := hb26_31.keep hk99 (fun f => f)
                      have hb26lt := hb26_31.lt
                      replace hat23 := hat23.keep hk99 (fun f => f)
                      have hb23lt := hat23.blk.lt
                      replace hA := ArgT.keep0 hA hk99
                      replace hK0 := Keep.tr hK0 (Keep.ofNone hk99); have hzhK0 := Keep.size hK0
                      replace hk18 := Keep.tr hk18 (Keep.ofNone hk99); have hzhk18 := Keep.size hk18
                      replace ho13 := Led.keep ho13 hk99 (fun _ _ f => f)
                      replace hk37 := Keep.tr hk37 (Keep.ofNone hk99); have hzhk37 := Keep.size hk37
                      refine GI_static [1, 6] [(1, .slice (some ⟨b23, o23, none⟩) xs.length capb), (5, .pointer (some ⟨l5, 0, none⟩)), (6, .int .i64 ((i : Nat) : Int)), (7, .pointer (some ⟨b26, 0, none⟩)), (26, .int .i64 ((i : Nat) : Int)), (27, .bool (decide (((i : Nat) : Int) < 100))), (73, .pointer (some ⟨b26, 3, none⟩)), (78, .int .i64 ((acct X x24.a).free))] (by kernel_rfl) ?_
                      refine GI_cell 3 (.tmp 73) 3 (.int .i64 x24.n) (some 74) (by kernel_rfl) (by kernel_rfl) (by kernel_rfl) qhb26_31 (fun f => f) (m := 1) (by kernel_rfl) rfl ?_
                      refine GI_static [] [(1, .slice (some ⟨b23, o23, none⟩) xs.length capb), (5, .pointer (some ⟨l5, 0, none⟩)), (6, .int .i64 ((i : Nat) : Int)), (7, .pointer (some ⟨b26, 0, none⟩)), (26, .int .i64 ((i : Nat) : Int)), (27, .bool (decide (((i : Nat) : Int) < 100))), (79, .bool (decide (x24.n ≤ (acct X x24.a).free)))] (by kernel_rfl) ?_
                      refine GI_end ?_
                      refine X_then ?_
                      refine V_if (x24.n ≤ (acct X x24.a).free) (by kernel_rfl) (fun hc102 => ?_) (fun hc102 => ?_)
                      · skip
                        refine V_region ?_
                        refine OI_static 2 [(1, .slice (some ⟨b23, o23, none⟩) xs.length capb), (5, .pointer (some ⟨l5, 0, none⟩)), (6, .int .i64 ((i : Nat) : Int)), (7, .pointer (some ⟨b26, 0, none⟩)), (26, .int .i64 ((i : Nat) : Int)), (27, .bool (decide (((i : Nat) : Int) < 100))), (80, .pointer (some ⟨l5, 0, none⟩)), (81, .pointer (some ⟨b26, 1, none⟩))] (by kernel_rfl) ?_
                        refine OI_cell 3 (.tmp 81) 1 (.int .i64 x24.a) (some 82) (by kernel_rfl) (by kernel_rfl) hb26_31 (m := 1) (by kernel_rfl) rfl ?_
                        refine OI_static 4 [(1, .slice (some ⟨b23, o23, none⟩) xs.length capb), (5, .pointer (some ⟨l5, 0, none⟩)), (6, .int .i64 ((i : Nat) : Int)), (7, .pointer (some ⟨b26, 0, none⟩)), (26, .int .i64 ((i : Nat) : Int)), (27, .bool (decide (((i : Nat) : Int) < 100))), (80, .pointer (some ⟨l5, 0, none⟩)), (82, .int .i64 x24.a), (83, .pointer (some ⟨b26, 2, none⟩))] (by kernel_rfl) ?_
                        refine OI_cell 3 (.tmp 83) 2 (.int .i64 x24.b) (some 84) (by kernel_rfl) (by kernel_rfl) hb26_31 (m := 1) (by kernel_rfl) rfl ?_
                        refine OI_static 6 [(1, .slice (some ⟨b23, o23, none⟩) xs.length capb), (5, .pointer (some ⟨l5, 0, none⟩)), (6, .int .i64 ((i : Nat) : Int)), (26, .int .i64 ((i : Nat) : Int)), (27, .bool (decide (((i : Nat) : Int) < 100))), (80, .pointer (some ⟨l5, 0, none⟩)), (82, .int .i64 x24.a), (84, .int .i64 x24.b), (85, .pointer (some ⟨b26, 3, none⟩))] (by kernel_rfl) ?_
                        refine OI_cell 3 (.tmp 85) 3 (.int .i64 x24.n) (some 86) (by kernel_rfl) (by kernel_rfl) hb26_31 (m := 1) (by kernel_rfl) rfl ?_
                        refine OI_call { callee := (Callee.value (Operand.func 15)), args := #[(Operand.tmp 80), (Operand.tmp 82), (Operand.tmp 84), (Operand.tmp 86)], argTypes := #[22, 3, 3, 3] } 15 #[.pointer (some ⟨l5, 0, none⟩), .int .i64 x24.a, .int .i64 x24.b, .int .i64 x24.n] (some 87) (by kernel_rfl) (by kernel_rfl) (by kernel_rfl) (lock_spec F12 l5 X C x24.a x24.b x24.n _ ho13 (by omega)) ?_
                        rintro _ w105 ⟨rfl, ⟨F107, ho108, hfr109⟩, hk106⟩
                        refine ⟨_, rfl, ?_⟩
                        have hsz110 := Keep.size hk106
                        replace hb26_31 := hb26_31.keep hk106 (fun hs => by have h1 := own14 _ hs; have h2 := lt20 _ hs; omega)
                        have hb26lt := hb26_31.lt
                        replace hat23 := hat23.keep hk106 (fun hs => by have h1 := own14 _ hs; have h2 := lt20 _ hs; omega)
                        have hb23lt := hat23.blk.lt
                        replace hA := ArgT.keep hA hk106 hA0 (fun k hk hs => by have h1 := own14 k hs; have h2 := lt20 k hs; omega)
                        replace hK0 := Keep.fresh hK0 hk106 (by intro i hi hs; first | exact hs | (exfalso; have h1 := own14 i hs; have h2 := lt20 i hs; omega) | (have h1 := own14 i hs; have h2 := lt20 i hs; show _ ∨ _; omega)); have hzhK0 := Keep.size hK0
                        replace hk18 := Keep.fresh hk18 hk106 (fun i hi hs => by rcases rel15 i hs with h | h; exact h; (exfalso; omega)); have hzhk18 := Keep.size hk18
                        replace hk37 := Keep.fresh hk37 hk106 (fun i hi hs => by rcases rel38 i hs with h | h; exact h; (exfalso; omega)); have hzhk37 := Keep.size hk37
                        have own112 : ∀ q, F107 q → w.heap.size ≤ q ∧ q ≠ b26 := fun q hq => by rcases hfr109 q hq with h | h; (have h1 := own14 q h; have h2 := lt20 q h; omega); omega
                        have lt111 := Led.lt ho108
                        have rel113 : ∀ q, F107 q → F6 q ∨ w3.heap.size ≤ q := fun q hq => by rcases hfr109 q hq with h | h; exact rel15 q h; exact .inr (by omega)
                        have rel114 : ∀ q, F107 q → F12 q ∨ w28.heap.size ≤ q := fun q hq => by rcases hfr109 q hq with h | h; exact rel38 q h; exact .inr (by omega)
                        refine OI_end rfl ?_
                        refine X_block ?_
                        exact X_join [(1, .slice (some ⟨b23, o23, none⟩) xs.length capb), (5, .pointer (some ⟨l5, 0, none⟩)), (6, .int .i64 ((i : Nat) : Int)), (26, .int .i64 ((i : Nat) : Int)), (27, .bool (decide (((i : Nat) : Int) < 100)))] rfl ⟨X, (lockC C x24.a x24.b x24.n), F107, g_lock hinvX hg _ _ _ hc102, Nat.le_trans (lockC_len _ _ _ _) (by omega), ho108, (fun q hq => by have h1 := own112 q hq; have h2 := lt111 q hq; omega), rel114, hk37, rfl⟩
                      · skip
                        refine V_skip ?_
                        refine X_block ?_
                        exact X_join [(1, .slice (some ⟨b23, o23, none⟩) xs.length capb), (5, .pointer (some ⟨l5, 0, none⟩)), (6, .int .i64 ((i : Nat) : Int)), (26, .int .i64 ((i : Nat) : Int)), (27, .bool (decide (((i : Nat) : Int) < 100)))] rfl ⟨X, C, F12, hg, by omega, ho13, (fun q hq => by have h1 := own14 q hq; have h2 := lt20 q hq; omega), rel38, hk37, rfl⟩
                    · skip
                      refine V_seq ?_
                      refine V_region ?_
                      refine OI_static 2 [(1, .slice (some ⟨b23, o23, none⟩) xs.length capb), (5, .pointer (some ⟨l5, 0, none⟩)), (6, .int .i64 ((i : Nat) : Int)), (7, .pointer (some ⟨b26, 0, none⟩)), (26, .int .i64 ((i : Nat) : Int)), (27, .bool (decide (((i : Nat) : Int) < 100))), (88, .bool (decide (x24.k = 7)))] (by kernel_rfl) ?_
                      refine OI_end rfl ?_
                      refine X_then ?_
                      refine V_if (x24.k = 7) (by kernel_rfl) (fun hc115 => ?_) (fun hc115 => ?_)
                      · skip
                        refine V_region ?_
                        refine OI_static 2 [(1, .slice (some ⟨b23, o23, none⟩) xs.length capb), (5, .pointer (some ⟨l5, 0, none⟩)), (6, .int .i64 ((i : Nat) : Int)), (7, .pointer (some ⟨b26, 0, none⟩)), (26, .int .i64 ((i : Nat) : Int)), (27, .bool (decide (((i : Nat) : Int) < 100))), (90, .pointer (some ⟨l5, 0, none⟩)), (91, .pointer (some ⟨b26, 1, none⟩))] (by kernel_rfl) ?_
                        refine OI_cell 3 (.tmp 91) 1 (.int .i64 x24.a) (some 92) (by kernel_rfl) (by kernel_rfl) hb26_31 (m := 1) (by kernel_rfl) rfl ?_
                        refine OI_static 4 [(1, .slice (some ⟨b23, o23, none⟩) xs.length capb), (5, .pointer (some ⟨l5, 0, none⟩)), (6, .int .i64 ((i : Nat) : Int)), (26, .int .i64 ((i : Nat) : Int)), (27, .bool (decide (((i : Nat) : Int) < 100))), (90, .pointer (some ⟨l5, 0, none⟩)), (92, .int .i64 x24.a), (93, .pointer (some ⟨b26, 3, none⟩))] (by kernel_rfl) ?_
                        refine OI_cell 3 (.tmp 93) 3 (.int .i64 x24.n) (some 94) (by kernel_rfl) (by kernel_rfl) hb26_31 (m := 1) (by kernel_rfl) rfl ?_
                        refine OI_call { callee := (Callee.value (Operand.func 24)), args := #[(Operand.tmp 90), (Operand.tmp 92), (Operand.tmp 94)], argTypes := #[22, 3, 3] } 24 #[.pointer (some ⟨l5, 0, none⟩), .int .i64 x24.a, .int .i64 x24.n] (some 95) (by kernel_rfl) (by kernel_rfl) (by kernel_rfl) (burn_spec F12 l5 X C x24.a x24.n _ ho13) ?_
                        rintro _ w118 ⟨rfl, ⟨F120, ho121, hfr122⟩, hk119⟩
                        refine ⟨_, rfl, ?_⟩
                        have hsz123 := Keep.size hk119
                        replace hb26_31 := hb26_31.keep hk119 (fun hs => by have h1 := own14 _ hs; have h2 := lt20 _ hs; omega)
                        have hb26lt := hb26_31.lt
                        replace hat23 := hat23.keep hk119 (fun hs => by have h1 := own14 _ hs; have h2 := lt20 _ hs; omega)
                        have hb23lt := hat23.blk.lt
                        replace hA := ArgT.keep hA hk119 hA0 (fun k hk hs => by have h1 := own14 k hs; have h2 := lt20 k hs; omega)
                        replace hK0 := Keep.fresh hK0 hk119 (by intro i hi hs; first | exact hs | (exfalso; have h1 := own14 i hs; have h2 := lt20 i hs; omega) | (have h1 := own14 i hs; have h2 := lt20 i hs; show _ ∨ _; omega)); have hzhK0 := Keep.size hK0
                        replace hk18 := Keep.fresh hk18 hk119 (fun i hi hs => by rcases rel15 i hs with h | h; exact h; (exfalso; omega)); have hzhk18 := Keep.size hk18
                        replace hk37 := Keep.fresh hk37 hk119 (fun i hi hs => by rcases rel38 i hs with h | h; exact h; (exfalso; omega)); have hzhk37 := Keep.size hk37
                        have own125 : ∀ q, F120 q → w.heap.size ≤ q ∧ q ≠ b26 := fun q hq => by rcases hfr122 q hq with h | h; (have h1 := own14 q h; have h2 := lt20 q h; omega); omega
                        have lt124 := Led.lt ho121
                        have rel126 : ∀ q, F120 q → F6 q ∨ w3.heap.size ≤ q := fun q hq => by rcases hfr122 q hq with h | h; exact rel15 q h; exact .inr (by omega)
                        have rel127 : ∀ q, F120 q → F12 q ∨ w28.heap.size ≤ q := fun q hq => by rcases hfr122 q hq with h | h; exact rel38 q h; exact .inr (by omega)
                        refine OI_end rfl ?_
                        refine X_block ?_
                        exact X_join [(1, .slice (some ⟨b23, o23, none⟩) xs.length capb), (5, .pointer (some ⟨l5, 0, none⟩)), (6, .int .i64 ((i : Nat) : Int)), (26, .int .i64 ((i : Nat) : Int)), (27, .bool (decide (((i : Nat) : Int) < 100)))] rfl ⟨(burnX X C x24.a x24.n), C, F120, g_burn hinvX hg _ _, by omega, ho121, (fun q hq => by have h1 := own125 q hq; have h2 := lt124 q hq; omega), rel127, hk37, rfl⟩
                      · skip
                        refine V_skip ?_
                        refine X_block ?_
                        exact X_join [(1, .slice (some ⟨b23, o23, none⟩) xs.length capb), (5, .pointer (some ⟨l5, 0, none⟩)), (6, .int .i64 ((i : Nat) : Int)), (26, .int .i64 ((i : Nat) : Int)), (27, .bool (decide (((i : Nat) : Int) < 100)))] rfl ⟨X, C, F12, hg, by omega, ho13, (fun q hq => by have h1 := own14 q hq; have h2 := lt20 q hq; omega), rel38, hk37, rfl⟩
          · skip
            rintro w128 _ ⟨X2, C2, F33, hg2, hcl2, ho34, own35, rel36, hk129, rfl⟩
            have hsz130 := Keep.size hk129
            replace hb26_31 := hb26_31.keep hk129 (fun hs => by have h1 := own14 _ hs; have h2 := lt20 _ hs; omega)
            have hb26lt := hb26_31.lt
            replace hat23 := hat23.keep hk129 (fun hs => by have h1 := own14 _ hs; have h2 := lt20 _ hs; omega)
            have hb23lt := hat23.blk.lt
            replace hA := ArgT.keep hA hk129 hA0 (fun k hk hs => by have h1 := own14 k hs; have h2 := lt20 k hs; omega)
            replace hK0 := Keep.fresh hK0 hk129 (by intro i hi hs; have h1 := own14 i hs; have h2 := lt20 i hs; omega); have hzhK0 := Keep.size hK0
            replace hk18 := Keep.fresh hk18 hk129 (fun i hi hs => by rcases rel15 i hs with h | h; exact h; (exfalso; omega)); have hzhk18 := Keep.size hk18
            have lt131 := Led.lt ho34
            have rel132 : ∀ q, F33 q → F6 q ∨ w3.heap.size ≤ q := fun q hq => by rcases rel36 q hq with h | h; exact rel15 q h; exact .inr (by omega)
            have hl5lt : l5 < w128.heap.size := Led.lt ho34 _ (Led.at_ ho34)
            refine X_then ?_
            refine V_seq ?_
            refine V_region ?_
            refine OI_static 1 [(1, .slice (some ⟨b23, o23, none⟩) xs.length capb), (5, .pointer (some ⟨l5, 0, none⟩)), (6, .int .i64 ((i : Nat) : Int)), (8, .int .i64 0), (26, .int .i64 ((i : Nat) : Int)), (27, .bool (decide (((i : Nat) : Int) < 100)))] (by kernel_rfl) ?_
            refine OI_end rfl ?_
            refine X_then ?_
            refine V_block ?_
            refine V_pick [(1, .slice (some ⟨b23, o23, none⟩) xs.length capb), (5, .pointer (some ⟨l5, 0, none⟩)), (6, .int .i64 ((i : Nat) : Int)), (8, .int .i64 0), (26, .int .i64 ((i : Nat) : Int)), (27, .bool (decide (((i : Nat) : Int) < 100)))] rfl ?_
            refine V_loop (fun k wI e => ∃ j : Nat, (k + j = 10) ∧ Keep none_ w128 wI ∧ e = [(1, .slice (some ⟨b23, o23, none⟩) xs.length capb), (5, .pointer (some ⟨l5, 0, none⟩)), (6, .int .i64 ((i : Nat) : Int)), (8, .int .i64 ((j : Nat) : Int)), (26, .int .i64 ((i : Nat) : Int)), (27, .bool (decide (((i : Nat) : Int) < 100)))]) 10 ⟨0, by omega, Keep.refl _ _, rfl⟩ ?_
            rintro k134 w133 _ ⟨j, hkj, hk135, rfl⟩
            have hsz136 := Keep.size hk135
            replace hb26_31 := hb26_31.keep hk135 (fun f => f)
            have hb26lt := hb26_31.lt
            replace hat23 := hat23.keep hk135 (fun f => f)
            have hb23lt := hat23.blk.lt
            replace hA := ArgT.keep0 hA hk135
            replace hK0 := Keep.tr hK0 (Keep.ofNone hk135); have hzhK0 := Keep.size hK0
            replace hk18 := Keep.tr hk18 (Keep.ofNone hk135); have hzhk18 := Keep.size hk18
            replace ho34 := Led.keep ho34 hk135 (fun _ _ f => f)
            have hzhk135 := Keep.size hk135
            refine V_seq ?_
            refine V_seq ?_
            refine V_region ?_
            refine OI_static 2 [(1, .slice (some ⟨b23, o23, none⟩) xs.length capb), (5, .pointer (some ⟨l5, 0, none⟩)), (6, .int .i64 ((i : Nat) : Int)), (8, .int .i64 ((j : Nat) : Int)), (26, .int .i64 ((i : Nat) : Int)), (27, .bool (decide (((i : Nat) : Int) < 100))), (97, .bool (decide (((j : Nat) : Int) < 10)))] (by kernel_rfl) ?_
            refine OI_end rfl ?_
            refine X_then ?_
            refine V_if (((j : Nat) : Int) < 10) (by kernel_rfl) (fun hc137 => ?_) (fun hc137 => ?_)
            · skip
              refine V_skip ?_
              refine X_then ?_
              refine V_seq ?_
              refine V_block ?_
              refine V_seq ?_
              refine V_region ?_
              refine OI_static 2 [(1, .slice (some ⟨b23, o23, none⟩) xs.length capb), (5, .pointer (some ⟨l5, 0, none⟩)), (6, .int .i64 ((i : Nat) : Int)), (8, .int .i64 ((j : Nat) : Int)), (26, .int .i64 ((i : Nat) : Int)), (27, .bool (decide (((i : Nat) : Int) < 100))), (100, .pointer (some ⟨l5, 0, none⟩)), (101, .int .i64 ((j : Nat) : Int))] (by kernel_rfl) ?_
              refine OI_call { callee := (Callee.value (Operand.func 20)), args := #[(Operand.tmp 100), (Operand.tmp 101)], argTypes := #[22, 3] } 20 #[.pointer (some ⟨l5, 0, none⟩), .int .i64 ((j : Nat) : Int)] (some 102) (by kernel_rfl) (by kernel_rfl) (by kernel_rfl) (free_spec F33 l5 X2 C2 ((j : Nat) : Int) _ ho34) ?_
              rintro _ w138 ⟨rfl, hk139⟩
              refine ⟨_, rfl, ?_⟩
              have hsz140 := Keep.size hk139
              replace hb26_31 := hb26_31.keep hk139 (fun f => f)
              have hb26lt := hb26_31.lt
              replace hat23 := hat23.keep hk139 (fun f => f)
              have hb23lt := hat23.blk.lt
              replace hA := ArgT.keep0 hA hk139
              replace hK0 := Keep.tr hK0 (Keep.ofNone hk139); have hzhK0 := Keep.size hK0
              replace hk18 := Keep.tr hk18 (Keep.ofNone hk139); have hzhk18 := Keep.size hk18
              replace ho34 := Led.keep ho34 hk139 (fun _ _ f => f)
              replace hk135 := Keep.tr hk135 (Keep.ofNone hk139); have hzhk135 := Keep.size hk135
              refine OI_static 5 [(1, .slice (some ⟨b23, o23, none⟩) xs.length capb), (5, .pointer (some ⟨l5, 0, none⟩)), (6, .int .i64 ((i : Nat) : Int)), (8, .int .i64 ((j : Nat) : Int)), (26, .int .i64 ((i : Nat) : Int)), (27, .bool (decide (((i : Nat) : Int) < 100))), (102, .int .i64 ((acct X2 ((j : Nat) : Int)).free)), (103, .pointer (some ⟨l5, 0, none⟩)), (104, .int .i64 ((j : Nat) : Int))] (by kernel_rfl) ?_
              refine OI_call { callee := (Callee.value (Operand.func 16)), args := #[(Operand.tmp 103), (Operand.tmp 104)], argTypes := #[22, 3] } 16 #[.pointer (some ⟨l5, 0, none⟩), .int .i64 ((j : Nat) : Int)] (some 105) (by kernel_rfl) (by kernel_rfl) (by kernel_rfl) (locked_spec F33 l5 X2 C2 ((j : Nat) : Int) _ ho34) ?_
              rintro _ w141 ⟨rfl, hk142⟩
              refine ⟨_, rfl, ?_⟩
              have hsz143 := Keep.size hk142
              replace hb26_31 := hb26_31.keep hk142 (fun f => f)
              have hb26lt := hb26_31.lt
              replace hat23 := hat23.keep hk142 (fun f => f)
              have hb23lt := hat23.blk.lt
              replace hA := ArgT.keep0 hA hk142
              replace hK0 := Keep.tr hK0 (Keep.ofNone hk142); have hzhK0 := Keep.size hK0
              replace hk18 := Keep.tr hk18 (Keep.ofNone hk142); have hzhk18 := Keep.size hk18
              replace ho34 := Led.keep ho34 hk142 (fun _ _ f => f)
              replace hk135 := Keep.tr hk135 (Keep.ofNone hk142); have hzhk135 := Keep.size hk135
              refine OI_static 7 [(1, .slice (some ⟨b23, o23, none⟩) xs.length capb), (5, .pointer (some ⟨l5, 0, none⟩)), (6, .int .i64 ((i : Nat) : Int)), (8, .int .i64 ((j : Nat) : Int)), (26, .int .i64 ((i : Nat) : Int)), (27, .bool (decide (((i : Nat) : Int) < 100))), (106, .bool (decide ((acct X2 ((j : Nat) : Int)).free < lockedL C2 ((j : Nat) : Int))))] (by kernel_rfl) ?_
              refine OI_end rfl ?_
              refine X_then ?_
              refine V_eq [(1, .slice (some ⟨b23, o23, none⟩) xs.length capb), (5, .pointer (some ⟨l5, 0, none⟩)), (6, .int .i64 ((i : Nat) : Int)), (8, .int .i64 ((j : Nat) : Int)), (26, .int .i64 ((i : Nat) : Int)), (27, .bool (decide (((i : Nat) : Int) < 100))), (106, .bool false)] (by rw [decide_eq_false (by have := hg2 ((j : Nat) : Int); omega : ¬ (acct X2 ((j : Nat) : Int)).free < lockedL C2 ((j : Nat) : Int))]) ?_
              refine V_false rfl ?_
              refine V_skip ?_
              refine X_block ?_
              refine X_then ?_
              refine V_region ?_
              have hw145 : IntKind.i64.wrap (((j : Nat) : Int) + 1) = ((j + 1 : Nat) : Int) := (wrap64_id (by omega) (by omega)).trans (by omega)
              refine OI_static 2 [(1, .slice (some ⟨b23, o23, none⟩) xs.length capb), (5, .pointer (some ⟨l5, 0, none⟩)), (6, .int .i64 ((i : Nat) : Int)), (26, .int .i64 ((i : Nat) : Int)), (27, .bool (decide (((i : Nat) : Int) < 100))), (99, .int .i64 (IntKind.i64.wrap (((j : Nat) : Int) + 1)))] (by kernel_rfl) ?_
              refine OI_eq [(1, .slice (some ⟨b23, o23, none⟩) xs.length capb), (5, .pointer (some ⟨l5, 0, none⟩)), (6, .int .i64 ((i : Nat) : Int)), (26, .int .i64 ((i : Nat) : Int)), (27, .bool (decide (((i : Nat) : Int) < 100))), (99, .int .i64 ((j + 1 : Nat) : Int))] (by rw [hw145]) ?_
              refine OI_static 3 [(1, .slice (some ⟨b23, o23, none⟩) xs.length capb), (5, .pointer (some ⟨l5, 0, none⟩)), (6, .int .i64 ((i : Nat) : Int)), (8, .int .i64 ((j + 1 : Nat) : Int)), (26, .int .i64 ((i : Nat) : Int)), (27, .bool (decide (((i : Nat) : Int) < 100)))] (by kernel_rfl) ?_
              refine OI_end rfl ?_
              exact V_again (k134 - 1) (by omega) [(1, .slice (some ⟨b23, o23, none⟩) xs.length capb), (5, .pointer (some ⟨l5, 0, none⟩)), (6, .int .i64 ((i : Nat) : Int)), (8, .int .i64 ((j + 1 : Nat) : Int)), (26, .int .i64 ((i : Nat) : Int)), (27, .bool (decide (((i : Nat) : Int) < 100)))] rfl ⟨j + 1, by omega, hk135, rfl⟩
            · skip
              refine V_exit ?_
              refine X_exit_then ?_
              refine X_exit_then ?_
              refine X_exit_here ?_
              refine X_block ?_
              refine X_then ?_
              refine V_region ?_
              have hw146 : IntKind.i64.wrap (((i : Nat) : Int) + 1) = ((i + 1 : Nat) : Int) := (wrap64_id (by omega) (by omega)).trans (by omega)
              refine OI_static 2 [(1, .slice (some ⟨b23, o23, none⟩) xs.length capb), (5, .pointer (some ⟨l5, 0, none⟩)), (26, .int .i64 ((i : Nat) : Int)), (27, .bool (decide (((i : Nat) : Int) < 100))), (30, .int .i64 (IntKind.i64.wrap (((i : Nat) : Int) + 1)))] (by kernel_rfl) ?_
              refine OI_eq [(1, .slice (some ⟨b23, o23, none⟩) xs.length capb), (5, .pointer (some ⟨l5, 0, none⟩)), (26, .int .i64 ((i : Nat) : Int)), (27, .bool (decide (((i : Nat) : Int) < 100))), (30, .int .i64 ((i + 1 : Nat) : Int))] (by rw [hw146]) ?_
              refine OI_static 3 [(1, .slice (some ⟨b23, o23, none⟩) xs.length capb), (5, .pointer (some ⟨l5, 0, none⟩)), (6, .int .i64 ((i + 1 : Nat) : Int)), (26, .int .i64 ((i : Nat) : Int)), (27, .bool (decide (((i : Nat) : Int) < 100)))] (by kernel_rfl) ?_
              refine OI_end rfl ?_
              exact V_again (k17 - 1) (by omega) [(1, .slice (some ⟨b23, o23, none⟩) xs.length capb), (5, .pointer (some ⟨l5, 0, none⟩)), (6, .int .i64 ((i + 1 : Nat) : Int))] rfl ⟨i + 1, X2, C2, F33, by omega, by omega, hg2, hcl2, ho34, (fun q hq => by have h1 := own35 q hq; have h2 := lt131 q hq; omega), rel132, hk18, rfl⟩
        · skip
          refine V_exit ?_
          refine X_exit_then ?_
          refine X_exit_then ?_
          refine X_exit_here ?_
          refine X_then ?_
          refine V_seq ?_
          refine V_region ?_
          refine OI_call { callee := (Callee.value (Operand.func 18)), args := #[], argTypes := #[] } 18 #[] (some 107) (by kernel_rfl) (by kernel_rfl) (by kernel_rfl) (known_spec _) ?_
          rintro _ w147 ⟨rfl, hk148⟩
          refine ⟨_, rfl, ?_⟩
          have hsz149 := Keep.size hk148
          replace hA := ArgT.keep0 hA hk148
          replace hB := ArgT.keep0 hB hk148
          replace hK0 := Keep.tr hK0 (Keep.ofNone hk148); have hzhK0 := Keep.size hK0
          replace ho13 := Led.keep ho13 hk148 (fun _ _ f => f)
          refine OI_static 2 [(4, .bool true)] (by kernel_rfl) ?_
          refine OI_end rfl ?_
          refine X_then ?_
          refine V_ret ?_
          exact X_return (.bool true) rfl ⟨rfl, hK0⟩
      · skip
        refine OI_eq [(1, .slice B xs.length capb), (5, .pointer (some ⟨l5, 0, none⟩)), (6, .int .i64 ((i : Nat) : Int)), (25, .bool false)] (by first | simp [hg21] | rfl) ?_
        refine OI_static 8 [(1, .slice B xs.length capb), (5, .pointer (some ⟨l5, 0, none⟩)), (6, .int .i64 ((i : Nat) : Int)), (26, undef), (27, undef), (28, .bool false)] (by kernel_rfl) ?_
        refine OI_end rfl ?_
        refine X_then ?_
        refine V_false rfl ?_
        refine V_exit ?_
        refine X_exit_then ?_
        refine X_exit_then ?_
        refine X_exit_here ?_
        refine X_then ?_
        refine V_seq ?_
        refine V_region ?_
        refine OI_call { callee := (Callee.value (Operand.func 18)), args := #[], argTypes := #[] } 18 #[] (some 107) (by kernel_rfl) (by kernel_rfl) (by kernel_rfl) (known_spec _) ?_
        rintro _ w150 ⟨rfl, hk151⟩
        refine ⟨_, rfl, ?_⟩
        have hsz152 := Keep.size hk151
        replace hA := ArgT.keep0 hA hk151
        replace hB := ArgT.keep0 hB hk151
        replace hK0 := Keep.tr hK0 (Keep.ofNone hk151); have hzhK0 := Keep.size hK0
        replace ho13 := Led.keep ho13 hk151 (fun _ _ f => f)
        refine OI_static 2 [(4, .bool true)] (by kernel_rfl) ?_
        refine OI_end rfl ?_
        refine X_then ?_
        refine V_ret ?_
        exact X_return (.bool true) rfl ⟨rfl, hK0⟩

theorem over_LedgerGuards {H : Type} {enc : TypeId × Value → H} {A B : Option Addr} {len cap lenb capb : Nat} {d db : DataW H} {ps pb : List MemPlace} {w : World} (h : DataW.Trod enc Try.prog w 0 (fun _ => true) true 26 (.slice A len cap) d ps) (hb : DataW.Trod enc Try.prog w 0 (fun _ => true) true 38 (.slice B lenb capb) db pb) : Calls Try.prog 10 #[.slice A len cap, .slice B lenb capb] w fun e w' => e = .returned (.bool true) ∧ Keep none_ w w' := by
  obtain ⟨fs, rfl, hA, hl, hc⟩ := read_elems (f := intc) (ks := [.int .i64]) (n := 1) (sz := 1) lift_int Try.underlying26 (by kernel_rfl) (by kernel_rfl) rfl (by decide) h
  obtain ⟨xs, rfl, hB, hlb, hcb⟩ := read_elems (f := Ac4.cells) (ks := [.int .i64, .int .i64, .int .i64, .int .i64]) (n := 4) (sz := 4) lift_Ac4 Try.underlying38 (by kernel_rfl) (by kernel_rfl) rfl (by decide) hb
  exact walk_LedgerGuards A B cap capb fs xs w hA hB (by unfold maxLen at hc; omega) (by unfold maxLen at hcb; omega)
end Go.Al
