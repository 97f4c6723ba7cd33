/-
  Walks of package cmp.
-/
import Derived.Test.YtijhhcnahepdlaaSl
import Derived.Test.YtijhhcnahepdlaaProg
namespace Go.Al
open Go Go.RowKit Go.Proofs
theorem isNaN_spec (x : Int) (w : World) : Calls Try.prog 54 #[.int .i64 x] w fun e w' => e = .returned (.bool false) ∧ w' = w := by
  refine enterV Try.func54 rfl [.int .i64 x] 6 rfl rfl rfl ?_
  refine V_pick [(0, .int .i64 x)] rfl ?_
  refine V_seq ?_
  refine V_region ?_
  refine OI_static 1 [(0, .int .i64 x)] (by kernel_rfl) ?_
  refine OI_end rfl ?_
  refine X_then ?_
  refine V_seq ?_
  refine V_region ?_
  refine OI_static 4 [(2, .bool (!(decide (x = x))))] (by kernel_rfl) ?_
  refine OI_end rfl ?_
  refine X_then ?_
  refine V_ret ?_
  exact X_return _ rfl ⟨by simp, rfl⟩

def cmpI (x y : Int) : Int := if x < y then -1 else if x > y then 1 else 0

theorem compare_spec (x y : Int) (w : World) : Calls Try.prog 44 #[.int .i64 x, .int .i64 y] w fun e w' => e = .returned (.int .i64 (cmpI x y)) ∧ w' = w := by
  refine enterV Try.func44 rfl [.int .i64 x, .int .i64 y] 20 rfl rfl rfl ?_
  refine V_pick [(0, .int .i64 x), (1, .int .i64 y)] rfl ?_
  refine V_seq ?_
  refine V_region ?_
  refine OI_static 1 [(0, .int .i64 x), (1, .int .i64 y)] (by kernel_rfl) ?_
  refine OI_end rfl ?_
  refine X_then ?_
  refine V_seq ?_
  refine V_region ?_
  refine OI_static 1 [(0, .int .i64 x), (1, .int .i64 y), (7, .int .i64 x)] (by kernel_rfl) ?_
  refine OI_call { callee := (Callee.value (Operand.func 54)), args := #[(Operand.tmp 7)], argTypes := #[3] } 54 #[.int .i64 x] (some 8) (by kernel_rfl) (by kernel_rfl) (by kernel_rfl) (isNaN_spec x _) ?_
  rintro _ w ⟨rfl, rfl⟩
  refine ⟨_, rfl, ?_⟩
  refine OI_static 3 [(0, .int .i64 x), (1, .int .i64 y), (5, .bool false)] (by kernel_rfl) ?_
  refine OI_end rfl ?_
  refine X_then ?_
  refine V_seq ?_
  refine V_region ?_
  refine OI_static 1 [(0, .int .i64 x), (1, .int .i64 y), (5, .bool false), (9, .int .i64 y)] (by kernel_rfl) ?_
  refine OI_call { callee := (Callee.value (Operand.func 54)), args := #[(Operand.tmp 9)], argTypes := #[3] } 54 #[.int .i64 y] (some 10) (by kernel_rfl) (by kernel_rfl) (by kernel_rfl) (isNaN_spec y _) ?_
  rintro _ w ⟨rfl, rfl⟩
  refine ⟨_, rfl, ?_⟩
  refine OI_static 3 [(0, .int .i64 x), (1, .int .i64 y), (5, .bool false), (6, .bool false)] (by kernel_rfl) ?_
  refine OI_end rfl ?_
  refine X_then ?_
  refine V_seq ?_
  refine V_seq ?_
  refine V_region ?_
  refine OI_static 1 [(0, .int .i64 x), (1, .int .i64 y), (6, .bool false), (11, .bool false)] (by kernel_rfl) ?_
  refine OI_end rfl ?_
  refine X_then ?_
  refine V_false rfl ?_
  refine V_skip ?_
  refine X_then ?_
  refine V_seq ?_
  refine V_seq ?_
  refine V_region ?_
  refine OI_static 1 [(0, .int .i64 x), (1, .int .i64 y), (13, .bool false)] (by kernel_rfl) ?_
  refine OI_end rfl ?_
  refine X_then ?_
  refine V_false rfl ?_
  refine V_skip ?_
  refine X_then ?_
  refine V_seq ?_
  refine V_seq ?_
  refine V_region ?_
  refine OI_static 3 [(0, .int .i64 x), (1, .int .i64 y), (16, .bool (decide (x < y)))] (by kernel_rfl) ?_
  refine OI_end rfl ?_
  refine X_then ?_
  refine V_if (x < y) (by kernel_rfl) (fun hc3 => ?_) (fun hc3 => ?_)
  · skip
    refine V_seq ?_
    refine V_region ?_
    refine OI_static 1 [(4, .int .i64 (-1))] (by kernel_rfl) ?_
    refine OI_end rfl ?_
    refine X_then ?_
    refine V_ret ?_
    refine X_ret_then ?_
    exact X_return (.int .i64 (-1)) rfl ⟨by unfold cmpI; simp [*], rfl⟩
  · skip
    refine V_skip ?_
    refine X_then ?_
    refine V_seq ?_
    refine V_seq ?_
    refine V_region ?_
    refine OI_static 3 [(19, .bool (decide (x > y)))] (by kernel_rfl) ?_
    refine OI_end rfl ?_
    refine X_then ?_
    refine V_if (x > y) (by kernel_rfl) (fun hc4 => ?_) (fun hc4 => ?_)
    · skip
      refine V_seq ?_
      refine V_region ?_
      refine OI_static 1 [(4, .int .i64 1)] (by kernel_rfl) ?_
      refine OI_end rfl ?_
      refine X_then ?_
      refine V_ret ?_
      refine X_ret_then ?_
      exact X_return (.int .i64 1) rfl ⟨by unfold cmpI; simp [*], rfl⟩
    · skip
      refine V_skip ?_
      refine X_then ?_
      refine V_seq ?_
      refine V_region ?_
      refine OI_static 1 [(4, .int .i64 0)] (by kernel_rfl) ?_
      refine OI_end rfl ?_
      refine X_then ?_
      refine V_ret ?_
      exact X_return (.int .i64 0) rfl ⟨by unfold cmpI; simp [*], rfl⟩

def orI : List Int → Int
  | [] => 0
  | x :: l => if x ≠ 0 then x else orI l
def intc (x : Int) : List Value := [.int .i64 x]
theorem intc_len (x : Int) : (intc x).length = 1 := rfl
theorem intc_one (x : Int) : ∀ u ∈ intc x, u.oneCell' = true := by
  intro u hu
  rw [List.mem_singleton.1 hu]
  rfl
theorem orI_drop {xs : List Int} {i : Nat} {x : Int} (hx : xs[i]? = some x) : orI (xs.drop i) = if x ≠ 0 then x else orI (xs.drop (i + 1)) := by
  obtain ⟨h, rfl⟩ := List.getElem?_eq_some_iff.1 hx
  rw [List.drop_eq_getElem_cons h]; rfl

theorem or_spec (A : Option Addr) (cap : Nat) (xs : List Int) (w : World) (hA : SlT w 1 intc A cap xs) (hn : xs.length ≤ 1000000) : Calls Try.prog 43 #[.slice A xs.length cap] w fun e w' => e = .returned (.int .i64 (orI xs)) ∧ w' = w := by
  refine enterV Try.func43 rfl [.slice A xs.length cap] 18 rfl rfl rfl ?_
  refine V_pick [(0, .slice A xs.length cap)] rfl ?_
  refine V_seq ?_
  refine V_region ?_
  refine OI_static 1 [(0, .slice A xs.length cap)] (by kernel_rfl) ?_
  refine OI_end rfl ?_
  refine X_then ?_
  refine V_seq ?_
  refine V_region ?_
  refine OI_static 1 [(0, .slice A xs.length cap), (3, .int .i64 0)] (by kernel_rfl) ?_
  refine OI_end rfl ?_
  refine X_then ?_
  refine V_seq ?_
  refine V_seq ?_
  refine V_region ?_
  refine OI_static 3 [(3, .int .i64 0), (6, .slice A xs.length cap), (7, .int .i64 ((xs.length : Nat) : Int)), (8, .int .i64 0)] (by kernel_rfl) ?_
  refine OI_end rfl ?_
  refine X_then ?_
  refine V_block ?_
  refine V_pick [(3, .int .i64 0), (6, .slice A xs.length cap), (7, .int .i64 ((xs.length : Nat) : Int)), (8, .int .i64 0)] rfl ?_
  refine V_loop (fun k wI e => ∃ i : Nat, (k + i = xs.length) ∧ (orI (xs.drop i) = orI xs) ∧ w = wI ∧ e = [(3, .int .i64 0), (6, .slice A xs.length cap), (7, .int .i64 ((xs.length : Nat) : Int)), (8, .int .i64 ((i : Nat) : Int))]) xs.length ⟨0, rfl, rfl, rfl, rfl⟩ ?_
  rintro k2 _ _ ⟨i, hki, ho, rfl, rfl⟩
  refine V_seq ?_
  refine V_region ?_
  refine OI_static 1 [(3, .int .i64 0), (6, .slice A xs.length cap), (7, .int .i64 ((xs.length : Nat) : Int)), (8, .int .i64 ((i : Nat) : Int)), (9, .bool (decide (((i : Nat) : Int) < ((xs.length : Nat) : Int))))] (by kernel_rfl) ?_
  refine OI_end rfl ?_
  refine X_then ?_
  refine V_seq ?_
  refine V_if (((i : Nat) : Int) < ((xs.length : Nat) : Int)) (by kernel_rfl) (fun hc3 => ?_) (fun hc3 => ?_)
  · skip
    refine V_skip ?_
    refine X_then ?_
    refine V_seq ?_
    refine V_block ?_
    refine V_seq ?_
    refine V_region ?_
    obtain ⟨b4, o4, L4, T4, rfl, hat4⟩ := SlT.open_ hA (by first | omega | (simp only [List.length_map]; omega) | (simp; done) | (simp; omega))
    have hb4lt := hat4.blk.lt
    refine OI_pure (some 10) (.indexAddr 30 (.tmp 6) (.tmp 8)) (by kernel_rfl) (pure_idxN (b := b4) (o := o4) (len := xs.length) (cap := cap) (kd := .i64) (j := i) (E := 3) (sz := 1) (by_ := 8) (by kernel_rfl) (by kernel_rfl) (by kernel_rfl) (by omega)) ?_
    obtain ⟨x5, hx6⟩ : ∃ x, xs[i]? = some x := ⟨_, List.getElem?_eq_getElem (by first | omega | (simp only [List.length_map]; omega))⟩
    refine OI_cell 3 (.tmp 10) (o4 + i * 1) (.int .i64 x5) (some 11) (by kernel_rfl) (by kernel_rfl) hat4.blk (m := 1) (by kernel_rfl) (At.cell0 hat4 (es_at hx6) rfl) ?_
    refine OI_static 3 [(3, .int .i64 0), (5, .int .i64 x5), (6, .slice (some ⟨b4, o4, none⟩) xs.length cap), (7, .int .i64 ((xs.length : Nat) : Int)), (8, .int .i64 ((i : Nat) : Int))] (by kernel_rfl) ?_
    refine OI_end rfl ?_
    refine X_then ?_
    refine V_seq ?_
    refine V_region ?_
    refine OI_static 3 [(3, .int .i64 0), (5, .int .i64 x5), (6, .slice (some ⟨b4, o4, none⟩) xs.length cap), (7, .int .i64 ((xs.length : Nat) : Int)), (8, .int .i64 ((i : Nat) : Int)), (14, .bool (!(decide (x5 = 0))))] (by kernel_rfl) ?_
    refine OI_end rfl ?_
    refine X_then ?_
    refine V_not (x5 = 0) (by kernel_rfl) (fun hc7 => ?_) (fun hc7 => ?_)
    · skip
      refine V_seq ?_
      refine V_region ?_
      refine OI_static 2 [(2, .int .i64 x5)] (by kernel_rfl) ?_
      refine OI_end rfl ?_
      refine X_then ?_
      refine V_ret ?_
      refine X_ret_block ?_
      refine X_ret_then ?_
      refine X_ret_then ?_
      refine X_ret_block ?_
      refine X_ret_then ?_
      have hz : orI xs = x5 := by rw [← ho, orI_drop hx6, if_pos hc7]
      exact X_return _ rfl ⟨by rw [hz], rfl⟩
    · skip
      refine V_skip ?_
      refine X_block ?_
      refine X_then ?_
      refine V_region ?_
      have hw8 : IntKind.i64.wrap (((i : Nat) : Int) + 1) = ((i + 1 : Nat) : Int) := (wrap64_id (by omega) (by omega)).trans (by omega)
      refine OI_static 1 [(3, .int .i64 0), (6, .slice (some ⟨b4, o4, none⟩) xs.length cap), (7, .int .i64 ((xs.length : Nat) : Int)), (16, .int .i64 (IntKind.i64.wrap (((i : Nat) : Int) + 1)))] (by kernel_rfl) ?_
      refine OI_eq [(3, .int .i64 0), (6, .slice (some ⟨b4, o4, none⟩) xs.length cap), (7, .int .i64 ((xs.length : Nat) : Int)), (16, .int .i64 ((i + 1 : Nat) : Int))] (by rw [hw8]) ?_
      refine OI_static 2 [(3, .int .i64 0), (6, .slice (some ⟨b4, o4, none⟩) xs.length cap), (7, .int .i64 ((xs.length : Nat) : Int)), (8, .int .i64 ((i + 1 : Nat) : Int))] (by kernel_rfl) ?_
      refine OI_end rfl ?_
      exact V_again (k2 - 1) (by omega) [(3, .int .i64 0), (6, .slice (some ⟨b4, o4, none⟩) xs.length cap), (7, .int .i64 ((xs.length : Nat) : Int)), (8, .int .i64 ((i + 1 : Nat) : Int))] rfl ⟨i + 1, by omega, by rw [← ho, orI_drop hx6, if_neg (by simpa using hc7)], rfl, rfl⟩
  · skip
    refine V_exit ?_
    refine X_exit_then ?_
    refine X_exit_then ?_
    refine X_exit_here ?_
    refine X_then ?_
    refine V_seq ?_
    refine V_region ?_
    refine OI_static 2 [(2, .int .i64 0)] (by kernel_rfl) ?_
    refine OI_end rfl ?_
    refine X_then ?_
    refine V_ret ?_
    have he : i = xs.length := by omega
    have hz : orI xs = 0 := by rw [← ho, he, List.drop_length]; rfl
    exact X_return _ rfl ⟨by rw [hz], rfl⟩
end Go.Al
