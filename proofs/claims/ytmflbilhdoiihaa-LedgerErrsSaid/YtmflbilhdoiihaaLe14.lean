/-
  Walks of the laws of ledger: balances that can not be.
-/
import Derived.Test.YtmflbilhdoiihaaLe13
namespace Go.Al
open Go Go.RowKit Go.Proofs
/-! ### Balances that can not be are refused -/
def okE (x : Int) : Bool := decide (0 ≤ x ∧ x ≤ 1073741824)
def okl (fs : List Int) : Nat → Bool
  | 0 => decide (fs.length ≤ 10)
  | i + 1 => okl fs i && okE ((fs[i]?).getD 0)
def suml (fs : List Int) : Nat → Int
  | 0 => 0
  | i + 1 => if okE ((fs[i]?).getD 0) then suml fs i + (fs[i]?).getD 0 else suml fs i
theorem suml_bnd (fs : List Int) : ∀ i : Nat, 0 ≤ suml fs i ∧ suml fs i ≤ i * 1073741824
  | 0 => ⟨Int.le_refl _, by simp [suml]⟩
  | i + 1 => by
    have ih := suml_bnd fs i
    simp only [suml]
    split
    · rename_i h
      have h : 0 ≤ (fs[i]?).getD 0 ∧ (fs[i]?).getD 0 ≤ 1073741824 := by simpa [okE] using h
      omega
    · omega
theorem okl_iff (fs : List Int) : ∀ i : Nat, okl fs i = true ↔ fs.length ≤ 10 ∧ ∀ k : Nat, k < i → 0 ≤ (fs[k]?).getD 0 ∧ (fs[k]?).getD 0 ≤ 1073741824
  | 0 => by simp [okl]
  | i + 1 => by
    have ih := okl_iff fs i
    simp only [okl, Bool.and_eq_true, ih, okE, decide_eq_true_eq]
    constructor
    · rintro ⟨⟨h1, h2⟩, h3⟩
      refine ⟨h1, fun k hk => ?_⟩
      rcases Nat.lt_or_ge k i with h | h
      · exact h2 k h
      · obtain rfl : k = i := by omega
        exact h3
    · rintro ⟨h1, h2⟩
      exact ⟨⟨h1, fun k hk => h2 k (by omega)⟩, h2 i (by omega)⟩
theorem tot_newX_succ (fs : List Int) (n : Nat) : tot (newX fs (n + 1)) = tot (newX fs n) + (fs[n]?).getD 0 := by
  have happ : ∀ (a b : List Acc), tot (a ++ b) = tot a + tot b := by
    intro a b
    induction a with
    | nil => simp [tot]
    | cons y l ih => simp only [List.cons_append, tot, ih]; omega
  rw [newX_succ, happ]
  simp only [tot]
  omega
theorem suml_tot {fs : List Int} : ∀ {i : Nat}, okl fs i = true → suml fs i = tot (newX fs i)
  | 0, _ => rfl
  | i + 1, h => by
    simp only [okl, Bool.and_eq_true] at h
    simp only [suml]
    rw [if_pos h.2, suml_tot h.1, tot_newX_succ]
theorem tot_past (fs : List Int) : ∀ d : Nat, tot (newX fs (fs.length + d)) = tot (newX fs fs.length)
  | 0 => rfl
  | d + 1 => by
    rw [← Nat.add_assoc, tot_newX_succ, tot_past fs d, List.getElem?_eq_none (by omega)]
    simp
theorem new_iff (fs : List Int) : okP fs ↔ okl fs fs.length = true ∧ suml fs fs.length ≤ 1073741824 := by
  constructor
  · rintro ⟨h1, h2, h3⟩
    have hok : okl fs fs.length = true := (okl_iff fs _).2 ⟨h1, fun k hk => by
      rw [List.getElem?_eq_getElem hk]
      exact h2 _ (List.getElem_mem hk)⟩
    refine ⟨hok, ?_⟩
    rw [suml_tot hok, ← tot_past fs (10 - fs.length), show fs.length + (10 - fs.length) = 10 by omega]
    exact h3
  · rintro ⟨h1, h2⟩
    obtain ⟨h3, h4⟩ := (okl_iff fs _).1 h1
    refine ⟨h3, fun x hx => ?_, ?_⟩
    · obtain ⟨k, hk, rfl⟩ := List.getElem_of_mem hx
      have := h4 k hk
      rw [List.getElem?_eq_getElem hk] at this
      exact this
    · rw [show (10 : Nat) = fs.length + (10 - fs.length) by omega, tot_past, ← suml_tot h1]
      exact h2
theorem new_sum {fs : List Int} (h : okP fs) : tot (newX fs 10) = suml fs fs.length := by
  obtain ⟨h1, _⟩ := (new_iff fs).1 h
  have h3 := ((okl_iff fs _).1 h1).1
  rw [show (10 : Nat) = fs.length + (10 - fs.length) by omega, tot_past, suml_tot h1]

set_option maxRecDepth 10000 in
theorem walk_LedgerNew_ok (A : Option Addr) (cap : Nat) (fs : List Int) (w : World) (hA0 : ArgT w 1 intc A cap fs) (hcap : fs.length ≤ 9223372036854775807) (hok : okP fs) : Calls Try.prog 4 #[.slice A fs.length cap] w fun e w' => e = .returned (.bool true) ∧ Keep none_ w w' := by
  have hA := hA0
  have hK0 : Keep none_ w w := Keep.refl _ _
  have hzhK0 := Keep.size hK0
  refine enterV Try.func4 rfl [.slice A fs.length cap] 74 rfl rfl rfl ?_
  refine V_pick [(0, .slice A fs.length cap)] rfl ?_
  refine V_seq ?_
  refine V_region ?_
  refine OI_static 1 [(0, .slice A fs.length cap)] (by kernel_rfl) ?_
  refine OI_end rfl ?_
  refine X_then ?_
  refine V_seq ?_
  refine V_seq ?_
  refine V_region ?_
  refine OI_static 3 [(0, .slice A fs.length cap), (10, .bool (decide (((fs.length : Nat) : Int) > 60)))] (by kernel_rfl) ?_
  refine OI_end rfl ?_
  refine X_then ?_
  refine V_if (((fs.length : Nat) : Int) > 60) (by kernel_rfl) (fun hc1 => ?_) (fun hc1 => ?_)
  · skip
    refine V_seq ?_
    refine V_region ?_
    refine OI_static 1 [(2, .bool true)] (by kernel_rfl) ?_
    refine OI_end rfl ?_
    refine X_then ?_
    refine V_ret ?_
    refine X_ret_then ?_
    exact X_return (.bool true) rfl ⟨rfl, hK0⟩
  · skip
    refine V_skip ?_
    refine X_then ?_
    refine V_seq ?_
    refine V_region ?_
    refine OI_static 1 [(0, .slice A fs.length cap), (12, .slice A fs.length cap)] (by kernel_rfl) ?_
    refine OI_call { callee := (Callee.value (Operand.func 14)), args := #[(Operand.tmp 12)], argTypes := #[26] } 14 #[.slice A fs.length cap] (some 13) (by kernel_rfl) (by kernel_rfl) (by kernel_rfl) (new_ok A cap fs _ hA (by omega) hok) ?_
    rintro _ w2 ⟨l4, F5, rfl, ho6, hk3, hge7⟩
    refine ⟨_, rfl, ?_⟩
    have hsz8 := Keep.size hk3
    replace hA := ArgT.keep0 hA hk3
    replace hK0 := Keep.tr hK0 (Keep.ofNone hk3); have hzhK0 := Keep.size hK0
    have own9 : ∀ q, F5 q → w.heap.size ≤ q := fun q hq => by have h1 := hge7 q hq; omega
    have lt10 := Led.lt ho6
    have hl4lt : l4 < w2.heap.size := Led.lt ho6 _ (Led.at_ ho6)
    have hl4ge := hge7 _ (Led.at_ ho6)
    refine OI_static 7 [(0, .slice A fs.length cap), (3, .pointer (some ⟨l4, 0, none⟩)), (4, .int .i64 0)] (by kernel_rfl) ?_
    refine OI_end rfl ?_
    refine X_then ?_
    refine V_seq ?_
    refine V_region ?_
    refine OI_static 5 [(0, .slice A fs.length cap), (3, .pointer (some ⟨l4, 0, none⟩)), (4, .int .i64 0), (5, .bool (decide (((fs.length : Nat) : Int) ≤ 10))), (6, .int .i64 0)] (by kernel_rfl) ?_
    refine OI_end rfl ?_
    refine X_then ?_
    refine V_seq ?_
    refine V_seq ?_
    refine V_region ?_
    refine OI_static 1 [(0, .slice A fs.length cap), (3, .pointer (some ⟨l4, 0, none⟩)), (4, .int .i64 0), (5, .bool (decide (((fs.length : Nat) : Int) ≤ 10))), (6, .int .i64 0), (7, .int .i64 0)] (by kernel_rfl) ?_
    refine OI_end rfl ?_
    refine X_then ?_
    refine V_block ?_
    refine V_pick [(0, .slice A fs.length cap), (3, .pointer (some ⟨l4, 0, none⟩)), (4, .int .i64 0), (5, .bool (decide (((fs.length : Nat) : Int) ≤ 10))), (6, .int .i64 0), (7, .int .i64 0)] rfl ?_
    refine V_loop (fun k wI e => ∃ i : Nat, ∃ b5 : Bool, ∃ s6 : Int, (k + i = fs.length) ∧ (b5 = okl fs i) ∧ (s6 = suml fs i) ∧ Keep none_ w2 wI ∧ e = [(0, .slice A fs.length cap), (3, .pointer (some ⟨l4, 0, none⟩)), (4, .int .i64 0), (5, .bool b5), (6, .int .i64 s6), (7, .int .i64 ((i : Nat) : Int))]) fs.length ⟨0, decide (((fs.length : Nat) : Int) ≤ 10), 0, rfl, by simp only [okl]; exact decide_eq_decide.2 (by omega), rfl, Keep.refl _ _, rfl⟩ ?_
    rintro k12 w11 _ ⟨i, b5, s6, hki, hb, hs, hk13, rfl⟩
    have hsz14 := Keep.size hk13
    replace hA := ArgT.keep0 hA hk13
    replace hK0 := Keep.tr hK0 (Keep.ofNone hk13); have hzhK0 := Keep.size hK0
    replace ho6 := Led.keep ho6 hk13 (fun _ _ f => f)
    have hzhk13 := Keep.size hk13
    have hsb := suml_bnd fs i
    rw [← hs] at hsb
    refine V_seq ?_
    refine V_seq ?_
    refine V_region ?_
    refine OI_static 4 [(0, .slice A fs.length cap), (3, .pointer (some ⟨l4, 0, none⟩)), (4, .int .i64 0), (5, .bool b5), (6, .int .i64 s6), (7, .int .i64 ((i : Nat) : Int)), (22, .bool (decide (((i : Nat) : Int) < ((fs.length : Nat) : Int))))] (by kernel_rfl) ?_
    refine OI_end rfl ?_
    refine X_then ?_
    refine V_if (((i : Nat) : Int) < ((fs.length : Nat) : Int)) (by kernel_rfl) (fun hc15 => ?_) (fun hc15 => ?_)
    · skip
      refine V_skip ?_
      refine X_then ?_
      refine V_seq ?_
      refine V_block ?_
      refine V_seq ?_
      refine V_region ?_
      refine OI_static 2 [(0, .slice A fs.length cap), (3, .pointer (some ⟨l4, 0, none⟩)), (4, .int .i64 0), (5, .bool b5), (6, .int .i64 s6), (7, .int .i64 ((i : Nat) : Int)), (25, .slice A fs.length cap), (26, .int .i64 ((i : Nat) : Int))] (by kernel_rfl) ?_
      obtain ⟨b16, o16, L16, rfl, hat16⟩ := ArgT.open_ hA (by first | omega | (simp only [List.length_map]; omega) | (simp; done) | (simp; omega))
      have hb16lt0 := ArgT.lt hA0 (by first | omega | (simp only [List.length_map]; omega) | (simp; done) | (simp; omega))
      have hb16lt := hat16.blk.lt
      refine OI_pure (some 27) (.indexAddr 26 (.tmp 25) (.tmp 26)) (by kernel_rfl) (pure_idxN (b := b16) (o := o16) (len := fs.length) (cap := cap) (kd := .i64) (j := i) (E := 3) (sz := 1) (by_ := 8) (by kernel_rfl) (by kernel_rfl) (by kernel_rfl) (by omega)) ?_
      obtain ⟨x17, hx18⟩ : ∃ x, fs[i]? = some x := ⟨_, List.getElem?_eq_getElem (by first | omega | (simp only [List.length_map]; omega))⟩
      refine OI_cellR 3 (.tmp 27) (o16 + i * 1) (.int .i64 x17) (some 28) (by kernel_rfl) (by kernel_rfl) hat16.blk (m := 1) (by kernel_rfl) (AtR.cell0 hat16 (es_at hx18) rfl) ?_
      refine OI_static 6 [(0, .slice (some ⟨b16, o16, none⟩) fs.length cap), (3, .pointer (some ⟨l4, 0, none⟩)), (4, .int .i64 0), (5, .bool b5), (6, .int .i64 s6), (7, .int .i64 ((i : Nat) : Int)), (30, .bool (decide (x17 < 0)))] (by kernel_rfl) ?_
      by_cases hg19 : x17 < 0
      · skip
        refine OI_eq [(0, .slice (some ⟨b16, o16, none⟩) fs.length cap), (3, .pointer (some ⟨l4, 0, none⟩)), (4, .int .i64 0), (5, .bool b5), (6, .int .i64 s6), (7, .int .i64 ((i : Nat) : Int)), (30, .bool true)] (by first | simp [hg19] | rfl) ?_
        refine OI_static 12 [(0, .slice (some ⟨b16, o16, none⟩) fs.length cap), (3, .pointer (some ⟨l4, 0, none⟩)), (4, .int .i64 0), (5, .bool b5), (6, .int .i64 s6), (7, .int .i64 ((i : Nat) : Int)), (31, undef), (32, undef), (33, undef), (34, undef), (35, undef), (36, .bool true)] (by kernel_rfl) ?_
        refine OI_end rfl ?_
        refine X_then ?_
        refine V_true rfl ?_
        refine V_region ?_
        refine OI_static 1 [(0, .slice (some ⟨b16, o16, none⟩) fs.length cap), (3, .pointer (some ⟨l4, 0, none⟩)), (4, .int .i64 0), (5, .bool false), (6, .int .i64 s6), (7, .int .i64 ((i : Nat) : Int)), (31, undef), (32, undef), (33, undef), (34, undef), (35, undef)] (by kernel_rfl) ?_
        refine OI_end rfl ?_
        refine X_block ?_
        refine X_then ?_
        refine V_region ?_
        have hw20 : IntKind.i64.wrap (((i : Nat) : Int) + 1) = ((i + 1 : Nat) : Int) := (wrap64_id (by omega) (by omega)).trans (by omega)
        refine OI_static 2 [(0, .slice (some ⟨b16, o16, none⟩) fs.length cap), (3, .pointer (some ⟨l4, 0, none⟩)), (4, .int .i64 0), (5, .bool false), (6, .int .i64 s6), (24, .int .i64 (IntKind.i64.wrap (((i : Nat) : Int) + 1))), (31, undef), (32, undef), (33, undef), (34, undef), (35, undef)] (by kernel_rfl) ?_
        refine OI_eq [(0, .slice (some ⟨b16, o16, none⟩) fs.length cap), (3, .pointer (some ⟨l4, 0, none⟩)), (4, .int .i64 0), (5, .bool false), (6, .int .i64 s6), (24, .int .i64 ((i + 1 : Nat) : Int)), (31, undef), (32, undef), (33, undef), (34, undef), (35, undef)] (by rw [hw20]) ?_
        refine OI_static 3 [(0, .slice (some ⟨b16, o16, none⟩) fs.length cap), (3, .pointer (some ⟨l4, 0, none⟩)), (4, .int .i64 0), (5, .bool false), (6, .int .i64 s6), (7, .int .i64 ((i + 1 : Nat) : Int)), (31, undef), (32, undef), (33, undef), (34, undef), (35, undef)] (by kernel_rfl) ?_
        refine OI_end rfl ?_
        have hgx : (fs[i]?).getD 0 = x17 := by rw [hx18]; rfl
        exact V_again (k12 - 1) (by omega) [(0, .slice (some ⟨b16, o16, none⟩) fs.length cap), (3, .pointer (some ⟨l4, 0, none⟩)), (4, .int .i64 0), (5, .bool false), (6, .int .i64 s6), (7, .int .i64 ((i + 1 : Nat) : Int))] rfl ⟨i + 1, false, s6, by omega, by simp only [okl]; rw [hgx, show okE x17 = false from decide_eq_false (by omega)]; simp, by simp only [suml]; rw [hgx, show okE x17 = false from decide_eq_false (by omega)]; simpa using hs, hk13, rfl⟩
      · skip
        refine OI_eq [(0, .slice (some ⟨b16, o16, none⟩) fs.length cap), (3, .pointer (some ⟨l4, 0, none⟩)), (4, .int .i64 0), (5, .bool b5), (6, .int .i64 s6), (7, .int .i64 ((i : Nat) : Int)), (30, .bool false)] (by first | simp [hg19] | rfl) ?_
        refine OI_static 8 [(0, .slice (some ⟨b16, o16, none⟩) fs.length cap), (3, .pointer (some ⟨l4, 0, none⟩)), (4, .int .i64 0), (5, .bool b5), (6, .int .i64 s6), (7, .int .i64 ((i : Nat) : Int)), (30, .bool false), (31, .slice (some ⟨b16, o16, none⟩) fs.length cap), (32, .int .i64 ((i : Nat) : Int))] (by kernel_rfl) ?_
        refine OI_pure (some 33) (.indexAddr 26 (.tmp 31) (.tmp 32)) (by kernel_rfl) (pure_idxN (b := b16) (o := o16) (len := fs.length) (cap := cap) (kd := .i64) (j := i) (E := 3) (sz := 1) (by_ := 8) (by kernel_rfl) (by kernel_rfl) (by kernel_rfl) (by omega)) ?_
        refine OI_cellR 3 (.tmp 33) (o16 + i * 1) (.int .i64 x17) (some 34) (by kernel_rfl) (by kernel_rfl) hat16.blk (m := 1) (by kernel_rfl) (AtR.cell0 hat16 (es_at hx18) rfl) ?_
        refine OI_static 12 [(0, .slice (some ⟨b16, o16, none⟩) fs.length cap), (3, .pointer (some ⟨l4, 0, none⟩)), (4, .int .i64 0), (5, .bool b5), (6, .int .i64 s6), (7, .int .i64 ((i : Nat) : Int)), (31, .slice (some ⟨b16, o16, none⟩) fs.length cap), (32, .int .i64 ((i : Nat) : Int)), (33, .pointer (some ⟨b16, o16 + i * 1, none⟩)), (34, .int .i64 x17), (35, .bool (decide (x17 > 1073741824))), (36, .bool (decide (x17 > 1073741824)))] (by kernel_rfl) ?_
        refine OI_end rfl ?_
        refine X_then ?_
        refine V_if (x17 > 1073741824) (by kernel_rfl) (fun hc21 => ?_) (fun hc21 => ?_)
        · skip
          refine V_region ?_
          refine OI_static 1 [(0, .slice (some ⟨b16, o16, none⟩) fs.length cap), (3, .pointer (some ⟨l4, 0, none⟩)), (4, .int .i64 0), (5, .bool false), (6, .int .i64 s6), (7, .int .i64 ((i : Nat) : Int)), (31, .slice (some ⟨b16, o16, none⟩) fs.length cap), (32, .int .i64 ((i : Nat) : Int)), (33, .pointer (some ⟨b16, o16 + i * 1, none⟩)), (34, .int .i64 x17), (35, .bool (decide (x17 > 1073741824)))] (by kernel_rfl) ?_
          refine OI_end rfl ?_
          refine X_block ?_
          refine X_then ?_
          refine V_region ?_
          have hw22 : IntKind.i64.wrap (((i : Nat) : Int) + 1) = ((i + 1 : Nat) : Int) := (wrap64_id (by omega) (by omega)).trans (by omega)
          refine OI_static 2 [(0, .slice (some ⟨b16, o16, none⟩) fs.length cap), (3, .pointer (some ⟨l4, 0, none⟩)), (4, .int .i64 0), (5, .bool false), (6, .int .i64 s6), (24, .int .i64 (IntKind.i64.wrap (((i : Nat) : Int) + 1))), (31, .slice (some ⟨b16, o16, none⟩) fs.length cap), (32, .int .i64 ((i : Nat) : Int)), (33, .pointer (some ⟨b16, o16 + i * 1, none⟩)), (34, .int .i64 x17), (35, .bool (decide (x17 > 1073741824)))] (by kernel_rfl) ?_
          refine OI_eq [(0, .slice (some ⟨b16, o16, none⟩) fs.length cap), (3, .pointer (some ⟨l4, 0, none⟩)), (4, .int .i64 0), (5, .bool false), (6, .int .i64 s6), (24, .int .i64 ((i + 1 : Nat) : Int)), (31, .slice (some ⟨b16, o16, none⟩) fs.length cap), (32, .int .i64 ((i : Nat) : Int)), (33, .pointer (some ⟨b16, o16 + i * 1, none⟩)), (34, .int .i64 x17), (35, .bool (decide (x17 > 1073741824)))] (by rw [hw22]) ?_
          refine OI_static 3 [(0, .slice (some ⟨b16, o16, none⟩) fs.length cap), (3, .pointer (some ⟨l4, 0, none⟩)), (4, .int .i64 0), (5, .bool false), (6, .int .i64 s6), (7, .int .i64 ((i + 1 : Nat) : Int)), (31, .slice (some ⟨b16, o16, none⟩) fs.length cap), (32, .int .i64 ((i : Nat) : Int)), (33, .pointer (some ⟨b16, o16 + i * 1, none⟩)), (34, .int .i64 x17), (35, .bool (decide (x17 > 1073741824)))] (by kernel_rfl) ?_
          refine OI_end rfl ?_
          have hgx : (fs[i]?).getD 0 = x17 := by rw [hx18]; rfl
          exact V_again (k12 - 1) (by omega) [(0, .slice (some ⟨b16, o16, none⟩) fs.length cap), (3, .pointer (some ⟨l4, 0, none⟩)), (4, .int .i64 0), (5, .bool false), (6, .int .i64 s6), (7, .int .i64 ((i + 1 : Nat) : Int))] rfl ⟨i + 1, false, s6, by omega, by simp only [okl]; rw [hgx, show okE x17 = false from decide_eq_false (by omega)]; simp, by simp only [suml]; rw [hgx, show okE x17 = false from decide_eq_false (by omega)]; simpa using hs, hk13, rfl⟩
        · skip
          refine V_region ?_
          refine OI_static 3 [(0, .slice (some ⟨b16, o16, none⟩) fs.length cap), (3, .pointer (some ⟨l4, 0, none⟩)), (4, .int .i64 0), (5, .bool b5), (7, .int .i64 ((i : Nat) : Int)), (31, .slice (some ⟨b16, o16, none⟩) fs.length cap), (32, .int .i64 ((i : Nat) : Int)), (33, .pointer (some ⟨b16, o16 + i * 1, none⟩)), (34, .int .i64 x17), (35, .bool (decide (x17 > 1073741824))), (37, .int .i64 s6), (38, .slice (some ⟨b16, o16, none⟩) fs.length cap), (39, .int .i64 ((i : Nat) : Int))] (by kernel_rfl) ?_
          refine OI_pure (some 40) (.indexAddr 26 (.tmp 38) (.tmp 39)) (by kernel_rfl) (pure_idxN (b := b16) (o := o16) (len := fs.length) (cap := cap) (kd := .i64) (j := i) (E := 3) (sz := 1) (by_ := 8) (by kernel_rfl) (by kernel_rfl) (by kernel_rfl) (by omega)) ?_
          refine OI_cellR 3 (.tmp 40) (o16 + i * 1) (.int .i64 x17) (some 41) (by kernel_rfl) (by kernel_rfl) hat16.blk (m := 1) (by kernel_rfl) (AtR.cell0 hat16 (es_at hx18) rfl) ?_
          have hw23 : IntKind.i64.wrap (s6 + x17) = s6 + x17 := (wrap64_id (by omega) (by omega)).trans (by omega)
          refine OI_static 6 [(0, .slice (some ⟨b16, o16, none⟩) fs.length cap), (3, .pointer (some ⟨l4, 0, none⟩)), (4, .int .i64 0), (5, .bool b5), (7, .int .i64 ((i : Nat) : Int)), (31, .slice (some ⟨b16, o16, none⟩) fs.length cap), (32, .int .i64 ((i : Nat) : Int)), (33, .pointer (some ⟨b16, o16 + i * 1, none⟩)), (34, .int .i64 x17), (35, .bool (decide (x17 > 1073741824))), (42, .int .i64 (IntKind.i64.wrap (s6 + x17)))] (by kernel_rfl) ?_
          refine OI_eq [(0, .slice (some ⟨b16, o16, none⟩) fs.length cap), (3, .pointer (some ⟨l4, 0, none⟩)), (4, .int .i64 0), (5, .bool b5), (7, .int .i64 ((i : Nat) : Int)), (31, .slice (some ⟨b16, o16, none⟩) fs.length cap), (32, .int .i64 ((i : Nat) : Int)), (33, .pointer (some ⟨b16, o16 + i * 1, none⟩)), (34, .int .i64 x17), (35, .bool (decide (x17 > 1073741824))), (42, .int .i64 (s6 + x17))] (by rw [hw23]) ?_
          refine OI_static 7 [(0, .slice (some ⟨b16, o16, none⟩) fs.length cap), (3, .pointer (some ⟨l4, 0, none⟩)), (4, .int .i64 0), (5, .bool b5), (6, .int .i64 (s6 + x17)), (7, .int .i64 ((i : Nat) : Int)), (31, .slice (some ⟨b16, o16, none⟩) fs.length cap), (32, .int .i64 ((i : Nat) : Int)), (33, .pointer (some ⟨b16, o16 + i * 1, none⟩)), (34, .int .i64 x17), (35, .bool (decide (x17 > 1073741824)))] (by kernel_rfl) ?_
          refine OI_end rfl ?_
          refine X_block ?_
          refine X_then ?_
          refine V_region ?_
          have hw24 : IntKind.i64.wrap (((i : Nat) : Int) + 1) = ((i + 1 : Nat) : Int) := (wrap64_id (by omega) (by omega)).trans (by omega)
          refine OI_static 2 [(0, .slice (some ⟨b16, o16, none⟩) fs.length cap), (3, .pointer (some ⟨l4, 0, none⟩)), (4, .int .i64 0), (5, .bool b5), (6, .int .i64 (s6 + x17)), (24, .int .i64 (IntKind.i64.wrap (((i : Nat) : Int) + 1))), (31, .slice (some ⟨b16, o16, none⟩) fs.length cap), (32, .int .i64 ((i : Nat) : Int)), (33, .pointer (some ⟨b16, o16 + i * 1, none⟩)), (34, .int .i64 x17), (35, .bool (decide (x17 > 1073741824)))] (by kernel_rfl) ?_
          refine OI_eq [(0, .slice (some ⟨b16, o16, none⟩) fs.length cap), (3, .pointer (some ⟨l4, 0, none⟩)), (4, .int .i64 0), (5, .bool b5), (6, .int .i64 (s6 + x17)), (24, .int .i64 ((i + 1 : Nat) : Int)), (31, .slice (some ⟨b16, o16, none⟩) fs.length cap), (32, .int .i64 ((i : Nat) : Int)), (33, .pointer (some ⟨b16, o16 + i * 1, none⟩)), (34, .int .i64 x17), (35, .bool (decide (x17 > 1073741824)))] (by rw [hw24]) ?_
          refine OI_static 3 [(0, .slice (some ⟨b16, o16, none⟩) fs.length cap), (3, .pointer (some ⟨l4, 0, none⟩)), (4, .int .i64 0), (5, .bool b5), (6, .int .i64 (s6 + x17)), (7, .int .i64 ((i + 1 : Nat) : Int)), (31, .slice (some ⟨b16, o16, none⟩) fs.length cap), (32, .int .i64 ((i : Nat) : Int)), (33, .pointer (some ⟨b16, o16 + i * 1, none⟩)), (34, .int .i64 x17), (35, .bool (decide (x17 > 1073741824)))] (by kernel_rfl) ?_
          refine OI_end rfl ?_
          have hgx : (fs[i]?).getD 0 = x17 := by rw [hx18]; rfl
          exact V_again (k12 - 1) (by omega) [(0, .slice (some ⟨b16, o16, none⟩) fs.length cap), (3, .pointer (some ⟨l4, 0, none⟩)), (4, .int .i64 0), (5, .bool b5), (6, .int .i64 (s6 + x17)), (7, .int .i64 ((i + 1 : Nat) : Int))] rfl ⟨i + 1, b5, s6 + x17, by omega, by simp only [okl]; rw [hgx, show okE x17 = true from decide_eq_true (by omega)]; simpa using hb, by simp only [suml]; rw [hgx, show okE x17 = true from decide_eq_true (by omega)]; rw [hs]; rfl, hk13, rfl⟩
    · skip
      obtain rfl : i = fs.length := by omega
      have hiff := new_iff fs
      rw [← hb, ← hs] at hiff
      obtain ⟨hb5, hs6⟩ := hiff.1 hok
      have hsum := new_sum hok
      rw [← hs] at hsum
      refine V_exit ?_
      refine X_exit_then ?_
      refine X_exit_then ?_
      refine X_exit_here ?_
      refine X_then ?_
      refine V_seq ?_
      refine V_region ?_
      refine OI_static 2 [(3, .pointer (some ⟨l4, 0, none⟩)), (4, .int .i64 0), (6, .int .i64 s6), (44, .bool b5)] (by kernel_rfl) ?_
      cases hg25 : b5
      · skip
        rw [hb5] at hg25; cases hg25
      · skip
        refine OI_eq [(3, .pointer (some ⟨l4, 0, none⟩)), (4, .int .i64 0), (6, .int .i64 s6), (44, .bool true)] (by first | rfl | rw [hg25]) ?_
        refine OI_static 6 [(3, .pointer (some ⟨l4, 0, none⟩)), (4, .int .i64 0), (5, .bool (decide (s6 ≤ 1073741824))), (6, .int .i64 s6)] (by kernel_rfl) ?_
        refine OI_end rfl ?_
        refine X_then ?_
        refine V_seq ?_
        refine V_seq ?_
        refine V_region ?_
        refine OI_static 2 [(3, .pointer (some ⟨l4, 0, none⟩)), (4, .int .i64 0), (6, .int .i64 s6), (49, .bool (!(decide (s6 ≤ 1073741824))))] (by kernel_rfl) ?_
        refine OI_end rfl ?_
        refine X_then ?_
        refine V_eq [(3, .pointer (some ⟨l4, 0, none⟩)), (4, .int .i64 0), (6, .int .i64 s6), (49, .bool false)] (by rw [decide_eq_true (by omega : s6 ≤ 1073741824)]; rfl) ?_
        refine V_false rfl ?_
        refine V_skip ?_
        refine X_then ?_
        refine V_seq ?_
        refine V_region ?_
        refine OI_static 8 [(6, .int .i64 s6), (65, .bool true), (66, .pointer (some ⟨l4, 0, none⟩))] (by kernel_rfl) ?_
        refine OI_call { callee := (Callee.value (Operand.func 19)), args := #[(Operand.tmp 66)], argTypes := #[22] } 19 #[.pointer (some ⟨l4, 0, none⟩)] (some 67) (by kernel_rfl) (by kernel_rfl) (by kernel_rfl) (issued_spec F5 l4 (newX fs 10) ([] : List Ci) _ ho6) ?_
        rintro _ w27 ⟨rfl, hk28⟩
        refine ⟨_, rfl, ?_⟩
        have hsz29 := Keep.size hk28
        replace hA := ArgT.keep0 hA hk28
        replace hK0 := Keep.tr hK0 (Keep.ofNone hk28); have hzhK0 := Keep.size hK0
        replace ho6 := Led.keep ho6 hk28 (fun _ _ f => f)
        refine OI_pick [(6, .int .i64 s6), (65, .bool true), (67, .int .i64 (tot (newX fs 10)))] (by kernel_rfl) ?_
        refine OI_eq [(6, .int .i64 s6), (65, .bool true), (67, .int .i64 s6)] (by rw [hsum]) ?_
        refine OI_static 13 [(71, .bool (decide (s6 = s6)))] (by kernel_rfl) ?_
        refine OI_eq [(71, .bool true)] (by rw [decide_eq_true (by omega : s6 = s6)]) ?_
        refine OI_call { callee := (Callee.value (Operand.func 18)), args := #[], argTypes := #[] } 18 #[] (some 72) (by kernel_rfl) (by kernel_rfl) (by kernel_rfl) (known_spec _) ?_
        rintro _ w31 ⟨rfl, hk32⟩
        refine ⟨_, rfl, ?_⟩
        have hsz33 := Keep.size hk32
        replace hA := ArgT.keep0 hA hk32
        replace hK0 := Keep.tr hK0 (Keep.ofNone hk32); have hzhK0 := Keep.size hK0
        replace ho6 := Led.keep ho6 hk32 (fun _ _ f => f)
        refine OI_static 16 [(2, .bool true)] (by kernel_rfl) ?_
        refine OI_end rfl ?_
        refine X_then ?_
        refine V_ret ?_
        exact X_return (.bool true) rfl ⟨rfl, hK0⟩

set_option maxRecDepth 10000 in
theorem walk_LedgerNew_no (A : Option Addr) (cap : Nat) (fs : List Int) (w : World) (hA0 : ArgT w 1 intc A cap fs) (hcap : fs.length ≤ 9223372036854775807) (hok : ¬ okP fs) : Calls Try.prog 4 #[.slice A fs.length cap] w fun e w' => e = .returned (.bool true) ∧ Keep none_ w w' := by
  have hA := hA0
  have hK0 : Keep none_ w w := Keep.refl _ _
  have hzhK0 := Keep.size hK0
  refine enterV Try.func4 rfl [.slice A fs.length cap] 74 rfl rfl rfl ?_
  refine V_pick [(0, .slice A fs.length cap)] rfl ?_
  refine V_seq ?_
  refine V_region ?_
  refine OI_static 1 [(0, .slice A fs.length cap)] (by kernel_rfl) ?_
  refine OI_end rfl ?_
  refine X_then ?_
  refine V_seq ?_
  refine V_seq ?_
  refine V_region ?_
  refine OI_static 3 [(0, .slice A fs.length cap), (10, .bool (decide (((fs.length : Nat) : Int) > 60)))] (by kernel_rfl) ?_
  refine OI_end rfl ?_
  refine X_then ?_
  refine V_if (((fs.length : Nat) : Int) > 60) (by kernel_rfl) (fun hc1 => ?_) (fun hc1 => ?_)
  · skip
    refine V_seq ?_
    refine V_region ?_
    refine OI_static 1 [(2, .bool true)] (by kernel_rfl) ?_
    refine OI_end rfl ?_
    refine X_then ?_
    refine V_ret ?_
    refine X_ret_then ?_
    exact X_return (.bool true) rfl ⟨rfl, hK0⟩
  · skip
    refine V_skip ?_
    refine X_then ?_
    refine V_seq ?_
    refine V_region ?_
    refine OI_static 1 [(0, .slice A fs.length cap), (12, .slice A fs.length cap)] (by kernel_rfl) ?_
    refine OI_call { callee := (Callee.value (Operand.func 14)), args := #[(Operand.tmp 12)], argTypes := #[26] } 14 #[.slice A fs.length cap] (some 13) (by kernel_rfl) (by kernel_rfl) (by kernel_rfl) (new_no A cap fs _ hA (by omega) hok) ?_
    rintro _ w2 ⟨rfl, hk3⟩
    refine ⟨_, rfl, ?_⟩
    have hsz8 := Keep.size hk3
    replace hA := ArgT.keep0 hA hk3
    replace hK0 := Keep.tr hK0 (Keep.ofNone hk3); have hzhK0 := Keep.size hK0
    refine OI_static 7 [(0, .slice A fs.length cap), (3, .pointer none), (4, .int .i64 1)] (by kernel_rfl) ?_
    refine OI_end rfl ?_
    refine X_then ?_
    refine V_seq ?_
    refine V_region ?_
    refine OI_static 5 [(0, .slice A fs.length cap), (3, .pointer none), (4, .int .i64 1), (5, .bool (decide (((fs.length : Nat) : Int) ≤ 10))), (6, .int .i64 0)] (by kernel_rfl) ?_
    refine OI_end rfl ?_
    refine X_then ?_
    refine V_seq ?_
    refine V_seq ?_
    refine V_region ?_
    refine OI_static 1 [(0, .slice A fs.length cap), (3, .pointer none), (4, .int .i64 1), (5, .bool (decide (((fs.length : Nat) : Int) ≤ 10))), (6, .int .i64 0), (7, .int .i64 0)] (by kernel_rfl) ?_
    refine OI_end rfl ?_
    refine X_then ?_
    refine V_block ?_
    refine V_pick [(0, .slice A fs.length cap), (3, .pointer none), (4, .int .i64 1), (5, .bool (decide (((fs.length : Nat) : Int) ≤ 10))), (6, .int .i64 0), (7, .int .i64 0)] rfl ?_
    refine V_loop (fun k wI e => ∃ i : Nat, ∃ b5 : Bool, ∃ s6 : Int, (k + i = fs.length) ∧ (b5 = okl fs i) ∧ (s6 = suml fs i) ∧ Keep none_ w2 wI ∧ e = [(0, .slice A fs.length cap), (3, .pointer none), (4, .int .i64 1), (5, .bool b5), (6, .int .i64 s6), (7, .int .i64 ((i : Nat) : Int))]) fs.length ⟨0, decide (((fs.length : Nat) : Int) ≤ 10), 0, rfl, by simp only [okl]; exact decide_eq_decide.2 (by omega), rfl, Keep.refl _ _, rfl⟩ ?_
    rintro k10 w9 _ ⟨i, b5, s6, hki, hb, hs, hk11, rfl⟩
    have hsz12 := Keep.size hk11
    replace hA := ArgT.keep0 hA hk11
    replace hK0 := Keep.tr hK0 (Keep.ofNone hk11); have hzhK0 := Keep.size hK0
    have hzhk11 := Keep.size hk11
    have hsb := suml_bnd fs i
    rw [← hs] at hsb
    refine V_seq ?_
    refine V_seq ?_
    refine V_region ?_
    refine OI_static 4 [(0, .slice A fs.length cap), (3, .pointer none), (4, .int .i64 1), (5, .bool b5), (6, .int .i64 s6), (7, .int .i64 ((i : Nat) : Int)), (22, .bool (decide (((i : Nat) : Int) < ((fs.length : Nat) : Int))))] (by kernel_rfl) ?_
    refine OI_end rfl ?_
    refine X_then ?_
    refine V_if (((i : Nat) : Int) < ((fs.length : Nat) : Int)) (by kernel_rfl) (fun hc13 => ?_) (fun hc13 => ?_)
    · skip
      refine V_skip ?_
      refine X_then ?_
      refine V_seq ?_
      refine V_block ?_
      refine V_seq ?_
      refine V_region ?_
      refine OI_static 2 [(0, .slice A fs.length cap), (3, .pointer none), (4, .int .i64 1), (5, .bool b5), (6, .int .i64 s6), (7, .int .i64 ((i : Nat) : Int)), (25, .slice A fs.length cap), (26, .int .i64 ((i : Nat) : Int))] (by kernel_rfl) ?_
      obtain ⟨b14, o14, L14, rfl, hat14⟩ := ArgT.open_ hA (by first | omega | (simp only [List.length_map]; omega) | (simp; done) | (simp; omega))
      have hb14lt0 := ArgT.lt hA0 (by first | omega | (simp only [List.length_map]; omega) | (simp; done) | (simp; omega))
      have hb14lt := hat14.blk.lt
      refine OI_pure (some 27) (.indexAddr 26 (.tmp 25) (.tmp 26)) (by kernel_rfl) (pure_idxN (b := b14) (o := o14) (len := fs.length) (cap := cap) (kd := .i64) (j := i) (E := 3) (sz := 1) (by_ := 8) (by kernel_rfl) (by kernel_rfl) (by kernel_rfl) (by omega)) ?_
      obtain ⟨x15, hx16⟩ : ∃ x, fs[i]? = some x := ⟨_, List.getElem?_eq_getElem (by first | omega | (simp only [List.length_map]; omega))⟩
      refine OI_cellR 3 (.tmp 27) (o14 + i * 1) (.int .i64 x15) (some 28) (by kernel_rfl) (by kernel_rfl) hat14.blk (m := 1) (by kernel_rfl) (AtR.cell0 hat14 (es_at hx16) rfl) ?_
      refine OI_static 6 [(0, .slice (some ⟨b14, o14, none⟩) fs.length cap), (3, .pointer none), (4, .int .i64 1), (5, .bool b5), (6, .int .i64 s6), (7, .int .i64 ((i : Nat) : Int)), (30, .bool (decide (x15 < 0)))] (by kernel_rfl) ?_
      by_cases hg17 : x15 < 0
      · skip
        refine OI_eq [(0, .slice (some ⟨b14, o14, none⟩) fs.length cap), (3, .pointer none), (4, .int .i64 1), (5, .bool b5), (6, .int .i64 s6), (7, .int .i64 ((i : Nat) : Int)), (30, .bool true)] (by first | simp [hg17] | rfl) ?_
        refine OI_static 12 [(0, .slice (some ⟨b14, o14, none⟩) fs.length cap), (3, .pointer none), (4, .int .i64 1), (5, .bool b5), (6, .int .i64 s6), (7, .int .i64 ((i : Nat) : Int)), (31, undef), (32, undef), (33, undef), (34, undef), (35, undef), (36, .bool true)] (by kernel_rfl) ?_
        refine OI_end rfl ?_
        refine X_then ?_
        refine V_true rfl ?_
        refine V_region ?_
        refine OI_static 1 [(0, .slice (some ⟨b14, o14, none⟩) fs.length cap), (3, .pointer none), (4, .int .i64 1), (5, .bool false), (6, .int .i64 s6), (7, .int .i64 ((i : Nat) : Int)), (31, undef), (32, undef), (33, undef), (34, undef), (35, undef)] (by kernel_rfl) ?_
        refine OI_end rfl ?_
        refine X_block ?_
        refine X_then ?_
        refine V_region ?_
        have hw18 : IntKind.i64.wrap (((i : Nat) : Int) + 1) = ((i + 1 : Nat) : Int) := (wrap64_id (by omega) (by omega)).trans (by omega)
        refine OI_static 2 [(0, .slice (some ⟨b14, o14, none⟩) fs.length cap), (3, .pointer none), (4, .int .i64 1), (5, .bool false), (6, .int .i64 s6), (24, .int .i64 (IntKind.i64.wrap (((i : Nat) : Int) + 1))), (31, undef), (32, undef), (33, undef), (34, undef), (35, undef)] (by kernel_rfl) ?_
        refine OI_eq [(0, .slice (some ⟨b14, o14, none⟩) fs.length cap), (3, .pointer none), (4, .int .i64 1), (5, .bool false), (6, .int .i64 s6), (24, .int .i64 ((i + 1 : Nat) : Int)), (31, undef), (32, undef), (33, undef), (34, undef), (35, undef)] (by rw [hw18]) ?_
        refine OI_static 3 [(0, .slice (some ⟨b14, o14, none⟩) fs.length cap), (3, .pointer none), (4, .int .i64 1), (5, .bool false), (6, .int .i64 s6), (7, .int .i64 ((i + 1 : Nat) : Int)), (31, undef), (32, undef), (33, undef), (34, undef), (35, undef)] (by kernel_rfl) ?_
        refine OI_end rfl ?_
        have hgx : (fs[i]?).getD 0 = x15 := by rw [hx16]; rfl
        exact V_again (k10 - 1) (by omega) [(0, .slice (some ⟨b14, o14, none⟩) fs.length cap), (3, .pointer none), (4, .int .i64 1), (5, .bool false), (6, .int .i64 s6), (7, .int .i64 ((i + 1 : Nat) : Int))] rfl ⟨i + 1, false, s6, by omega, by simp only [okl]; rw [hgx, show okE x15 = false from decide_eq_false (by omega)]; simp, by simp only [suml]; rw [hgx, show okE x15 = false from decide_eq_false (by omega)]; simpa using hs, hk11, rfl⟩
      · skip
        refine OI_eq [(0, .slice (some ⟨b14, o14, none⟩) fs.length cap), (3, .pointer none), (4, .int .i64 1), (5, .bool b5), (6, .int .i64 s6), (7, .int .i64 ((i : Nat) : Int)), (30, .bool false)] (by first | simp [hg17] | rfl) ?_
        refine OI_static 8 [(0, .slice (some ⟨b14, o14, none⟩) fs.length cap), (3, .pointer none), (4, .int .i64 1), (5, .bool b5), (6, .int .i64 s6), (7, .int .i64 ((i : Nat) : Int)), (30, .bool false), (31, .slice (some ⟨b14, o14, none⟩) fs.length cap), (32, .int .i64 ((i : Nat) : Int))] (by kernel_rfl) ?_
        refine OI_pure (some 33) (.indexAddr 26 (.tmp 31) (.tmp 32)) (by kernel_rfl) (pure_idxN (b := b14) (o := o14) (len := fs.length) (cap := cap) (kd := .i64) (j := i) (E := 3) (sz := 1) (by_ := 8) (by kernel_rfl) (by kernel_rfl) (by kernel_rfl) (by omega)) ?_
        refine OI_cellR 3 (.tmp 33) (o14 + i * 1) (.int .i64 x15) (some 34) (by kernel_rfl) (by kernel_rfl) hat14.blk (m := 1) (by kernel_rfl) (AtR.cell0 hat14 (es_at hx16) rfl) ?_
        refine OI_static 12 [(0, .slice (some ⟨b14, o14, none⟩) fs.length cap), (3, .pointer none), (4, .int .i64 1), (5, .bool b5), (6, .int .i64 s6), (7, .int .i64 ((i : Nat) : Int)), (31, .slice (some ⟨b14, o14, none⟩) fs.length cap), (32, .int .i64 ((i : Nat) : Int)), (33, .pointer (some ⟨b14, o14 + i * 1, none⟩)), (34, .int .i64 x15), (35, .bool (decide (x15 > 1073741824))), (36, .bool (decide (x15 > 1073741824)))] (by kernel_rfl) ?_
        refine OI_end rfl ?_
        refine X_then ?_
        refine V_if (x15 > 1073741824) (by kernel_rfl) (fun hc19 => ?_) (fun hc19 => ?_)
        · skip
          refine V_region ?_
          refine OI_static 1 [(0, .slice (some ⟨b14, o14, none⟩) fs.length cap), (3, .pointer none), (4, .int .i64 1), (5, .bool false), (6, .int .i64 s6), (7, .int .i64 ((i : Nat) : Int)), (31, .slice (some ⟨b14, o14, none⟩) fs.length cap), (32, .int .i64 ((i : Nat) : Int)), (33, .pointer (some ⟨b14, o14 + i * 1, none⟩)), (34, .int .i64 x15), (35, .bool (decide (x15 > 1073741824)))] (by kernel_rfl) ?_
          refine OI_end rfl ?_
          refine X_block ?_
          refine X_then ?_
          refine V_region ?_
          have hw20 : IntKind.i64.wrap (((i : Nat) : Int) + 1) = ((i + 1 : Nat) : Int) := (wrap64_id (by omega) (by omega)).trans (by omega)
          refine OI_static 2 [(0, .slice (some ⟨b14, o14, none⟩) fs.length cap), (3, .pointer none), (4, .int .i64 1), (5, .bool false), (6, .int .i64 s6), (24, .int .i64 (IntKind.i64.wrap (((i : Nat) : Int) + 1))), (31, .slice (some ⟨b14, o14, none⟩) fs.length cap), (32, .int .i64 ((i : Nat) : Int)), (33, .pointer (some ⟨b14, o14 + i * 1, none⟩)), (34, .int .i64 x15), (35, .bool (decide (x15 > 1073741824)))] (by kernel_rfl) ?_
          refine OI_eq [(0, .slice (some ⟨b14, o14, none⟩) fs.length cap), (3, .pointer none), (4, .int .i64 1), (5, .bool false), (6, .int .i64 s6), (24, .int .i64 ((i + 1 : Nat) : Int)), (31, .slice (some ⟨b14, o14, none⟩) fs.length cap), (32, .int .i64 ((i : Nat) : Int)), (33, .pointer (some ⟨b14, o14 + i * 1, none⟩)), (34, .int .i64 x15), (35, .bool (decide (x15 > 1073741824)))] (by rw [hw20]) ?_
          refine OI_static 3 [(0, .slice (some ⟨b14, o14, none⟩) fs.length cap), (3, .pointer none), (4, .int .i64 1), (5, .bool false), (6, .int .i64 s6), (7, .int .i64 ((i + 1 : Nat) : Int)), (31, .slice (some ⟨b14, o14, none⟩) fs.length cap), (32, .int .i64 ((i : Nat) : Int)), (33, .pointer (some ⟨b14, o14 + i * 1, none⟩)), (34, .int .i64 x15), (35, .bool (decide (x15 > 1073741824)))] (by kernel_rfl) ?_
          refine OI_end rfl ?_
          have hgx : (fs[i]?).getD 0 = x15 := by rw [hx16]; rfl
          exact V_again (k10 - 1) (by omega) [(0, .slice (some ⟨b14, o14, none⟩) fs.length cap), (3, .pointer none), (4, .int .i64 1), (5, .bool false), (6, .int .i64 s6), (7, .int .i64 ((i + 1 : Nat) : Int))] rfl ⟨i + 1, false, s6, by omega, by simp only [okl]; rw [hgx, show okE x15 = false from decide_eq_false (by omega)]; simp, by simp only [suml]; rw [hgx, show okE x15 = false from decide_eq_false (by omega)]; simpa using hs, hk11, rfl⟩
        · skip
          refine V_region ?_
          refine OI_static 3 [(0, .slice (some ⟨b14, o14, none⟩) fs.length cap), (3, .pointer none), (4, .int .i64 1), (5, .bool b5), (7, .int .i64 ((i : Nat) : Int)), (31, .slice (some ⟨b14, o14, none⟩) fs.length cap), (32, .int .i64 ((i : Nat) : Int)), (33, .pointer (some ⟨b14, o14 + i * 1, none⟩)), (34, .int .i64 x15), (35, .bool (decide (x15 > 1073741824))), (37, .int .i64 s6), (38, .slice (some ⟨b14, o14, none⟩) fs.length cap), (39, .int .i64 ((i : Nat) : Int))] (by kernel_rfl) ?_
          refine OI_pure (some 40) (.indexAddr 26 (.tmp 38) (.tmp 39)) (by kernel_rfl) (pure_idxN (b := b14) (o := o14) (len := fs.length) (cap := cap) (kd := .i64) (j := i) (E := 3) (sz := 1) (by_ := 8) (by kernel_rfl) (by kernel_rfl) (by kernel_rfl) (by omega)) ?_
          refine OI_cellR 3 (.tmp 40) (o14 + i * 1) (.int .i64 x15) (some 41) (by kernel_rfl) (by kernel_rfl) hat14.blk (m := 1) (by kernel_rfl) (AtR.cell0 hat14 (es_at hx16) rfl) ?_
          have hw21 : IntKind.i64.wrap (s6 + x15) = s6 + x15 := (wrap64_id (by omega) (by omega)).trans (by omega)
          refine OI_static 6 [(0, .slice (some ⟨b14, o14, none⟩) fs.length cap), (3, .pointer none), (4, .int .i64 1), (5, .bool b5), (7, .int .i64 ((i : Nat) : Int)), (31, .slice (some ⟨b14, o14, none⟩) fs.length cap), (32, .int .i64 ((i : Nat) : Int)), (33, .pointer (some ⟨b14, o14 + i * 1, none⟩)), (34, .int .i64 x15), (35, .bool (decide (x15 > 1073741824))), (42, .int .i64 (IntKind.i64.wrap (s6 + x15)))] (by kernel_rfl) ?_
          refine OI_eq [(0, .slice (some ⟨b14, o14, none⟩) fs.length cap), (3, .pointer none), (4, .int .i64 1), (5, .bool b5), (7, .int .i64 ((i : Nat) : Int)), (31, .slice (some ⟨b14, o14, none⟩) fs.length cap), (32, .int .i64 ((i : Nat) : Int)), (33, .pointer (some ⟨b14, o14 + i * 1, none⟩)), (34, .int .i64 x15), (35, .bool (decide (x15 > 1073741824))), (42, .int .i64 (s6 + x15))] (by rw [hw21]) ?_
          refine OI_static 7 [(0, .slice (some ⟨b14, o14, none⟩) fs.length cap), (3, .pointer none), (4, .int .i64 1), (5, .bool b5), (6, .int .i64 (s6 + x15)), (7, .int .i64 ((i : Nat) : Int)), (31, .slice (some ⟨b14, o14, none⟩) fs.length cap), (32, .int .i64 ((i : Nat) : Int)), (33, .pointer (some ⟨b14, o14 + i * 1, none⟩)), (34, .int .i64 x15), (35, .bool (decide (x15 > 1073741824)))] (by kernel_rfl) ?_
          refine OI_end rfl ?_
          refine X_block ?_
          refine X_then ?_
          refine V_region ?_
          have hw22 : IntKind.i64.wrap (((i : Nat) : Int) + 1) = ((i + 1 : Nat) : Int) := (wrap64_id (by omega) (by omega)).trans (by omega)
          refine OI_static 2 [(0, .slice (some ⟨b14, o14, none⟩) fs.length cap), (3, .pointer none), (4, .int .i64 1), (5, .bool b5), (6, .int .i64 (s6 + x15)), (24, .int .i64 (IntKind.i64.wrap (((i : Nat) : Int) + 1))), (31, .slice (some ⟨b14, o14, none⟩) fs.length cap), (32, .int .i64 ((i : Nat) : Int)), (33, .pointer (some ⟨b14, o14 + i * 1, none⟩)), (34, .int .i64 x15), (35, .bool (decide (x15 > 1073741824)))] (by kernel_rfl) ?_
          refine OI_eq [(0, .slice (some ⟨b14, o14, none⟩) fs.length cap), (3, .pointer none), (4, .int .i64 1), (5, .bool b5), (6, .int .i64 (s6 + x15)), (24, .int .i64 ((i + 1 : Nat) : Int)), (31, .slice (some ⟨b14, o14, none⟩) fs.length cap), (32, .int .i64 ((i : Nat) : Int)), (33, .pointer (some ⟨b14, o14 + i * 1, none⟩)), (34, .int .i64 x15), (35, .bool (decide (x15 > 1073741824)))] (by rw [hw22]) ?_
          refine OI_static 3 [(0, .slice (some ⟨b14, o14, none⟩) fs.length cap), (3, .pointer none), (4, .int .i64 1), (5, .bool b5), (6, .int .i64 (s6 + x15)), (7, .int .i64 ((i + 1 : Nat) : Int)), (31, .slice (some ⟨b14, o14, none⟩) fs.length cap), (32, .int .i64 ((i : Nat) : Int)), (33, .pointer (some ⟨b14, o14 + i * 1, none⟩)), (34, .int .i64 x15), (35, .bool (decide (x15 > 1073741824)))] (by kernel_rfl) ?_
          refine OI_end rfl ?_
          have hgx : (fs[i]?).getD 0 = x15 := by rw [hx16]; rfl
          exact V_again (k10 - 1) (by omega) [(0, .slice (some ⟨b14, o14, none⟩) fs.length cap), (3, .pointer none), (4, .int .i64 1), (5, .bool b5), (6, .int .i64 (s6 + x15)), (7, .int .i64 ((i + 1 : Nat) : Int))] rfl ⟨i + 1, b5, s6 + x15, by omega, by simp only [okl]; rw [hgx, show okE x15 = true from decide_eq_true (by omega)]; simpa using hb, by simp only [suml]; rw [hgx, show okE x15 = true from decide_eq_true (by omega)]; rw [hs]; rfl, hk11, rfl⟩
    · skip
      obtain rfl : i = fs.length := by omega
      have hiff := new_iff fs
      rw [← hb, ← hs] at hiff
      have hno : ¬ (b5 = true ∧ s6 ≤ 1073741824) := fun h9 => hok (hiff.2 h9)
      refine V_exit ?_
      refine X_exit_then ?_
      refine X_exit_then ?_
      refine X_exit_here ?_
      refine X_then ?_
      refine V_seq ?_
      refine V_region ?_
      refine OI_static 2 [(3, .pointer none), (4, .int .i64 1), (6, .int .i64 s6), (44, .bool b5)] (by kernel_rfl) ?_
      cases hg23 : b5
      · skip
        refine OI_eq [(3, .pointer none), (4, .int .i64 1), (6, .int .i64 s6), (44, .bool false)] (by first | rfl | rw [hg23]) ?_
        refine OI_static 6 [(3, .pointer none), (4, .int .i64 1), (5, .bool false), (6, .int .i64 s6)] (by kernel_rfl) ?_
        refine OI_end rfl ?_
        refine X_then ?_
        refine V_seq ?_
        refine V_seq ?_
        refine V_region ?_
        refine OI_static 2 [(3, .pointer none), (4, .int .i64 1), (6, .int .i64 s6), (49, .bool true)] (by kernel_rfl) ?_
        refine OI_end rfl ?_
        refine X_then ?_
        refine V_true rfl ?_
        refine V_seq ?_
        refine V_region ?_
        refine OI_static 7 [(56, .bool true)] (by kernel_rfl) ?_
        refine OI_call { callee := (Callee.value (Operand.func 18)), args := #[], argTypes := #[] } 18 #[] (some 57) (by kernel_rfl) (by kernel_rfl) (by kernel_rfl) (known_spec _) ?_
        rintro _ w24 ⟨rfl, hk25⟩
        refine ⟨_, rfl, ?_⟩
        have hsz26 := Keep.size hk25
        replace hA := ArgT.keep0 hA hk25
        replace hK0 := Keep.tr hK0 (Keep.ofNone hk25); have hzhK0 := Keep.size hK0
        refine OI_static 10 [(2, .bool true)] (by kernel_rfl) ?_
        refine OI_end rfl ?_
        refine X_then ?_
        refine V_ret ?_
        refine X_ret_then ?_
        exact X_return (.bool true) rfl ⟨rfl, hK0⟩
      · skip
        refine OI_eq [(3, .pointer none), (4, .int .i64 1), (6, .int .i64 s6), (44, .bool true)] (by first | rfl | rw [hg23]) ?_
        refine OI_static 6 [(3, .pointer none), (4, .int .i64 1), (5, .bool (decide (s6 ≤ 1073741824))), (6, .int .i64 s6)] (by kernel_rfl) ?_
        refine OI_end rfl ?_
        refine X_then ?_
        refine V_seq ?_
        refine V_seq ?_
        refine V_region ?_
        refine OI_static 2 [(3, .pointer none), (4, .int .i64 1), (6, .int .i64 s6), (49, .bool (!(decide (s6 ≤ 1073741824))))] (by kernel_rfl) ?_
        refine OI_end rfl ?_
        refine X_then ?_
        refine V_not (s6 ≤ 1073741824) (by kernel_rfl) (fun hc27 => ?_) (fun hc27 => ?_)
        · skip
          refine V_seq ?_
          refine V_region ?_
          refine OI_static 7 [(56, .bool true)] (by kernel_rfl) ?_
          refine OI_call { callee := (Callee.value (Operand.func 18)), args := #[], argTypes := #[] } 18 #[] (some 57) (by kernel_rfl) (by kernel_rfl) (by kernel_rfl) (known_spec _) ?_
          rintro _ w28 ⟨rfl, hk29⟩
          refine ⟨_, rfl, ?_⟩
          have hsz30 := Keep.size hk29
          replace hA := ArgT.keep0 hA hk29
          replace hK0 := Keep.tr hK0 (Keep.ofNone hk29); have hzhK0 := Keep.size hK0
          refine OI_static 10 [(2, .bool true)] (by kernel_rfl) ?_
          refine OI_end rfl ?_
          refine X_then ?_
          refine V_ret ?_
          refine X_ret_then ?_
          exact X_return (.bool true) rfl ⟨rfl, hK0⟩
        · skip
          exact (hno ⟨hg23, hc27⟩).elim

theorem lift_int (x : List Value) (h : Flat [.int .i64] x) : ∃ y : Int, intc y = x := by
  cases x with
  | nil => exact h.elim
  | cons v l =>
    cases l with
    | nil => obtain ⟨⟨n, rfl, _⟩, _⟩ := h; exact ⟨n, rfl⟩
    | cons u l => exact h.2.elim
theorem over_LedgerNew {H : Type} {enc : TypeId × Value → H} {A : Option Addr} {len cap : Nat} {d : DataW H} {ps : List MemPlace} {w : World} (h : DataW.Trod enc Try.prog w 0 (fun _ => true) true 26 (.slice A len cap) d ps) : Calls Try.prog 4 #[.slice A len cap] w fun e w' => e = .returned (.bool true) ∧ Keep none_ w w' := by
  obtain ⟨xs, rfl, hA, hl, hc⟩ := read_elems (f := intc) (ks := [.int .i64]) (n := 1) (sz := 1) lift_int Try.underlying26 (by kernel_rfl) (by kernel_rfl) rfl (by decide) h
  by_cases hok : okP xs
  · exact walk_LedgerNew_ok A cap xs w hA (by unfold maxLen at hc; omega) hok
  · exact walk_LedgerNew_no A cap xs w hA (by unfold maxLen at hc; omega) hok
end Go.Al
