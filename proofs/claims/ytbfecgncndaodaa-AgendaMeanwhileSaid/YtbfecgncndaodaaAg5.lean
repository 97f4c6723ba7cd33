/-
  Walks of the laws of the agenda: what did not fit is done first.
-/
import Derived.Test.YtbfecgncndaodaaAg4
namespace Go.Al
open Go Go.RowKit Go.Proofs
/-! ### What did not fit is done first: the lists -/
def A1 (n : Nat) : List Tk := (List.range n).map fun j => tk0 ((10 + j : Nat) : Int) 1
def A2 (n : Nat) : List Tk := (List.range n).map fun j => tk0 ((j : Nat) : Int) 2
theorem A1_len (n : Nat) : (A1 n).length = n := by simp [A1]
theorem A2_len (n : Nat) : (A2 n).length = n := by simp [A2]
theorem A1_succ (n : Nat) : A1 (n + 1) = A1 n ++ [tk0 ((10 + n : Nat) : Int) 1] := by simp [A1, List.range_succ]
theorem A2_succ (n : Nat) : A2 (n + 1) = A2 n ++ [tk0 ((n : Nat) : Int) 2] := by simp [A2, List.range_succ]
theorem A1_mem {n : Nat} {x : Tk} (h : x ∈ A1 n) : x.at_ = 1 ∧ x.pr = 0 ∧ 10 ≤ x.name ∧ x.name < 10 + n := by
  simp only [A1, List.mem_map, List.mem_range] at h
  obtain ⟨j, hj, rfl⟩ := h
  refine ⟨rfl, rfl, ?_, ?_⟩ <;> simp [tk0] <;> omega
theorem A2_mem {n : Nat} {x : Tk} (h : x ∈ A2 n) : x.at_ = 2 ∧ x.pr = 0 ∧ 0 ≤ x.name ∧ x.name < n := by
  simp only [A2, List.mem_map, List.mem_range] at h
  obtain ⟨j, hj, rfl⟩ := h
  refine ⟨rfl, rfl, ?_, ?_⟩ <;> simp [tk0] <;> omega
theorem ins_app {t : Tk} {b : List Tk} : ∀ {a : List Tk}, (∀ x ∈ a, ltT x t) → (∀ x ∈ b, ¬ ltT x t) → ins t (a ++ b) = a ++ t :: b
  | [], _, h2 => by
    cases b with
    | nil => rfl
    | cons y b => simp [ins, h2 y (List.mem_cons_self ..)]
  | x :: a, h1, h2 => by
    simp only [List.cons_append, ins, h1 x (List.mem_cons_self ..), if_true]
    rw [ins_app (fun y hy => h1 y (List.mem_cons_of_mem _ hy)) h2]
theorem no_name {nm : Int} {ts : List Tk} (h : ∀ x ∈ ts, x.name ≠ nm) : ts.any (named nm) = false := by
  rw [List.any_eq_false]
  intro x hx
  simp [named, h x hx]
theorem put_A2 {i : Nat} (h : i < 12) : putR (tk0 ((i : Nat) : Int) 2) (A2 i) = (0, A2 (i + 1)) := by
  rw [put0 (by omega) (by omega) (no_name fun x hx => by have := A2_mem hx; omega) (by rw [A2_len]; omega), A2_succ]
  have := ins_app (t := tk0 ((i : Nat) : Int) 2) (a := A2 i) (b := []) (fun x hx => by have := A2_mem hx; simp only [ltT, tk0]; omega) (fun x hx => by cases hx)
  rw [List.append_nil] at this
  rw [this]
theorem put_A1 {i l : Nat} (h : i + l < 12) (hl : l ≤ 10) : putR (tk0 ((10 + i : Nat) : Int) 1) (A1 i ++ A2 l) = (0, A1 (i + 1) ++ A2 l) := by
  rw [put0 (by omega) (by omega) (no_name fun x hx => by
    rcases List.mem_append.1 hx with hx | hx
    · have := A1_mem hx; omega
    · have := A2_mem hx; omega) (by rw [List.length_append, A1_len, A2_len]; omega), A1_succ]
  rw [ins_app (fun x hx => by have := A1_mem hx; simp only [ltT, tk0]; omega) (fun x hx => by have := A2_mem hx; simp only [ltT, tk0]; omega)]
  simp
theorem dueN_le {now : Int} : ∀ (ts : List Tk) (most : Int), dueN now most ts ≤ ts.length ∧ (0 ≤ most → (dueN now most ts : Int) ≤ most)
  | [], most => by simp [dueN]
  | t :: l, most => by
    simp only [dueN]
    have := dueN_le (now := now) l (most - 1)
    split
    · simp; omega
    · simp
def all12 (n l : Nat) : List Tk := A1 n ++ A2 l
theorem all12_len (n l : Nat) : (all12 n l).length = n + l := by simp [all12, A1_len, A2_len]
theorem all12_at {n l i : Nat} {x : Tk} (h : (all12 n l)[i]? = some x) : (i < n → x.at_ = 1) ∧ x.at_ ≤ 2 ∧ x.name = (if i < n then (10 + i : Int) else (i : Int) - n) := by
  simp only [all12] at h
  by_cases hi : i < n
  · rw [List.getElem?_append_left (by rw [A1_len]; exact hi)] at h
    simp only [A1, List.getElem?_map, List.getElem?_range hi, Option.map_some, Option.some.injEq] at h
    subst h
    simp [tk0, hi]
  · rw [List.getElem?_append_right (by rw [A1_len]; omega), A1_len] at h
    have hlt : i - n < l := by
      have := (List.getElem?_eq_some_iff.1 h).1
      rwa [A2_len] at this
    simp only [A2, List.getElem?_map, List.getElem?_range hlt, Option.map_some, Option.some.injEq] at h
    subst h
    simp [tk0, hi]
    omega
theorem due_car (D : Nat → Prop) (g n l d : Nat) (now most : Int) (w : World) (h : Ag D w g ((all12 n l).drop d)) (hd : d ≤ n + l) (hm : 1 ≤ most) (hnow : 1 ≤ now) (hn : 1 ≤ n) (h1 : now = 1 → d = 0) :
    Calls Try.prog 13 #[.pointer (some ⟨g, 0, none⟩), .int .i64 now, .int .i64 most] w fun e w' => ∃ A' cap' r, e = .returned (.slice A' r.length cap') ∧ SlT w' 36 Tk.cells A' cap' r ∧ Ag D w' g ((all12 n l).drop (d + r.length)) ∧ Keep (only g) w w' ∧ (∀ k, inA A' k → w.heap.size ≤ k) ∧ (∀ (i : Nat) x, r[i]? = some x → (all12 n l)[d + i]? = some x) ∧ d + r.length ≤ n + l ∧ (r.length : Int) ≤ most ∧ (d < n + l → 1 ≤ r.length) := by
  refine (due_spec D g _ now most w h).mono ?_
  rintro e w' ⟨A', cap', rfl, h2, h3, h4, h5⟩
  have hle := dueN_le (now := now) ((all12 n l).drop d) most
  rw [List.length_drop, all12_len] at hle
  have hrl : (((all12 n l).drop d).take (dueN now most ((all12 n l).drop d))).length = dueN now most ((all12 n l).drop d) := by rw [List.length_take, List.length_drop, all12_len]; omega
  refine ⟨A', cap', _, rfl, h2, ?_, h4, h5, ?_, ?_, ?_, ?_⟩
  · rw [hrl, ← List.drop_drop]; exact h3
  · intro i x hi
    rw [List.getElem?_take] at hi
    split at hi
    · rwa [List.getElem?_drop] at hi
    · cases hi
  · rw [hrl]; omega
  · rw [hrl]; exact hle.2 (by omega)
  · intro hlt
    rw [hrl]
    obtain ⟨x, hx⟩ : ∃ x, (all12 n l)[d]? = some x := ⟨_, List.getElem?_eq_getElem (by rw [all12_len]; exact hlt)⟩
    have hdr : (all12 n l).drop d = x :: (all12 n l).drop (d + 1) := by
      obtain ⟨h6, rfl⟩ := List.getElem?_eq_some_iff.1 hx
      rw [List.drop_eq_getElem_cons h6]
    have hax := all12_at hx
    rw [hdr]
    have hxn : x.at_ ≤ now := by
      by_cases hnow1 : now = 1
      · have := hax.1 (by have := h1 hnow1; omega); omega
      · omega
    simp only [dueN]
    rw [if_pos ⟨by omega, hxn⟩]
    omega
theorem intc_len (x : Int) : (intc x).length = 1 := rfl
theorem intc_one (x : Int) : ∀ u ∈ intc x, u.oneCell' = true := by
  intro u hu
  rw [List.mem_singleton.1 hu]
  rfl
def nm12 (n l : Nat) : List Int := (all12 n l).map Tk.name
theorem nm12_succ {n l d : Nat} {x : Tk} (h : (all12 n l)[d]? = some x) : (nm12 n l).take d ++ [x.name] = (nm12 n l).take (d + 1) := by
  have h1 : (nm12 n l)[d]? = some x.name := by rw [nm12, List.getElem?_map, h]; rfl
  obtain ⟨h2, h3⟩ := List.getElem?_eq_some_iff.1 h1
  rw [List.take_succ_eq_append_getElem h2, h3]

theorem walk_AgendaCarries (n later : Nat) (most : Int) (w : World) : Calls Try.prog 5 #[.int .i64 ((n : Nat) : Int), .int .i64 ((later : Nat) : Int), .int .i64 most] w fun e w' => e = .returned (.bool true) ∧ Keep none_ w w' := by
  have hK0 : Keep none_ w w := Keep.refl _ _
  have hzhK0 := Keep.size hK0
  refine enterV Try.func5 rfl [.int .i64 ((n : Nat) : Int), .int .i64 ((later : Nat) : Int), .int .i64 most] 125 rfl rfl rfl ?_
  refine V_pick [(0, .int .i64 ((n : Nat) : Int)), (1, .int .i64 ((later : Nat) : Int)), (2, .int .i64 most)] rfl ?_
  refine V_seq ?_
  refine V_region ?_
  refine OI_static 1 [(0, .int .i64 ((n : Nat) : Int)), (1, .int .i64 ((later : Nat) : Int)), (2, .int .i64 most)] (by kernel_rfl) ?_
  refine OI_end rfl ?_
  refine X_then ?_
  refine V_seq ?_
  refine V_seq ?_
  refine V_region ?_
  refine OI_static 3 [(0, .int .i64 ((n : Nat) : Int)), (1, .int .i64 ((later : Nat) : Int)), (2, .int .i64 most), (17, .bool (decide (((n : Nat) : Int) < 1)))] (by kernel_rfl) ?_
  by_cases hg1 : ((n : Nat) : Int) < 1
  · skip
    refine OI_eq [(0, .int .i64 ((n : Nat) : Int)), (1, .int .i64 ((later : Nat) : Int)), (2, .int .i64 most), (17, .bool true)] (by simp [hg1]) ?_
    refine OI_static 22 [(0, .int .i64 ((n : Nat) : Int)), (1, .int .i64 ((later : Nat) : Int)), (2, .int .i64 most), (36, .bool true)] (by kernel_rfl) ?_
    refine OI_end rfl ?_
    refine X_then ?_
    refine V_true rfl ?_
    refine V_seq ?_
    refine V_region ?_
    refine OI_static 1 [(6, .bool true)] (by kernel_rfl) ?_
    refine OI_end rfl ?_
    refine X_then ?_
    refine V_ret ?_
    refine X_ret_then ?_
    exact X_return (.bool true) rfl ⟨rfl, hK0⟩
  · skip
    refine OI_eq [(0, .int .i64 ((n : Nat) : Int)), (1, .int .i64 ((later : Nat) : Int)), (2, .int .i64 most), (17, .bool false)] (by simp [hg1]) ?_
    refine OI_static 7 [(0, .int .i64 ((n : Nat) : Int)), (1, .int .i64 ((later : Nat) : Int)), (2, .int .i64 most), (21, .bool (decide (((n : Nat) : Int) > 6)))] (by kernel_rfl) ?_
    by_cases hg2 : ((n : Nat) : Int) > 6
    · skip
      refine OI_eq [(0, .int .i64 ((n : Nat) : Int)), (1, .int .i64 ((later : Nat) : Int)), (2, .int .i64 most), (21, .bool true)] (by simp [hg2]) ?_
      refine OI_static 22 [(0, .int .i64 ((n : Nat) : Int)), (1, .int .i64 ((later : Nat) : Int)), (2, .int .i64 most), (36, .bool true)] (by kernel_rfl) ?_
      refine OI_end rfl ?_
      refine X_then ?_
      refine V_true rfl ?_
      refine V_seq ?_
      refine V_region ?_
      refine OI_static 1 [(6, .bool true)] (by kernel_rfl) ?_
      refine OI_end rfl ?_
      refine X_then ?_
      refine V_ret ?_
      refine X_ret_then ?_
      exact X_return (.bool true) rfl ⟨rfl, hK0⟩
    · skip
      refine OI_eq [(0, .int .i64 ((n : Nat) : Int)), (1, .int .i64 ((later : Nat) : Int)), (2, .int .i64 most), (21, .bool false)] (by simp [hg2]) ?_
      refine OI_static 11 [(0, .int .i64 ((n : Nat) : Int)), (1, .int .i64 ((later : Nat) : Int)), (2, .int .i64 most), (25, .bool (decide (((later : Nat) : Int) < 0)))] (by kernel_rfl) ?_
      by_cases hg3 : ((later : Nat) : Int) < 0
      · skip
        refine OI_eq [(0, .int .i64 ((n : Nat) : Int)), (1, .int .i64 ((later : Nat) : Int)), (2, .int .i64 most), (25, .bool true)] (by simp [hg3]) ?_
        refine OI_static 22 [(0, .int .i64 ((n : Nat) : Int)), (1, .int .i64 ((later : Nat) : Int)), (2, .int .i64 most), (36, .bool true)] (by kernel_rfl) ?_
        refine OI_end rfl ?_
        refine X_then ?_
        refine V_true rfl ?_
        refine V_seq ?_
        refine V_region ?_
        refine OI_static 1 [(6, .bool true)] (by kernel_rfl) ?_
        refine OI_end rfl ?_
        refine X_then ?_
        refine V_ret ?_
        refine X_ret_then ?_
        exact X_return (.bool true) rfl ⟨rfl, hK0⟩
      · skip
        refine OI_eq [(0, .int .i64 ((n : Nat) : Int)), (1, .int .i64 ((later : Nat) : Int)), (2, .int .i64 most), (25, .bool false)] (by simp [hg3]) ?_
        refine OI_static 15 [(0, .int .i64 ((n : Nat) : Int)), (1, .int .i64 ((later : Nat) : Int)), (2, .int .i64 most), (29, .bool (decide (((later : Nat) : Int) > 6)))] (by kernel_rfl) ?_
        by_cases hg4 : ((later : Nat) : Int) > 6
        · skip
          refine OI_eq [(0, .int .i64 ((n : Nat) : Int)), (1, .int .i64 ((later : Nat) : Int)), (2, .int .i64 most), (29, .bool true)] (by simp [hg4]) ?_
          refine OI_static 22 [(0, .int .i64 ((n : Nat) : Int)), (1, .int .i64 ((later : Nat) : Int)), (2, .int .i64 most), (36, .bool true)] (by kernel_rfl) ?_
          refine OI_end rfl ?_
          refine X_then ?_
          refine V_true rfl ?_
          refine V_seq ?_
          refine V_region ?_
          refine OI_static 1 [(6, .bool true)] (by kernel_rfl) ?_
          refine OI_end rfl ?_
          refine X_then ?_
          refine V_ret ?_
          refine X_ret_then ?_
          exact X_return (.bool true) rfl ⟨rfl, hK0⟩
        · skip
          refine OI_eq [(0, .int .i64 ((n : Nat) : Int)), (1, .int .i64 ((later : Nat) : Int)), (2, .int .i64 most), (29, .bool false)] (by simp [hg4]) ?_
          refine OI_static 19 [(0, .int .i64 ((n : Nat) : Int)), (1, .int .i64 ((later : Nat) : Int)), (2, .int .i64 most), (33, .bool (decide (most < 1)))] (by kernel_rfl) ?_
          by_cases hg5 : most < 1
          · skip
            refine OI_eq [(0, .int .i64 ((n : Nat) : Int)), (1, .int .i64 ((later : Nat) : Int)), (2, .int .i64 most), (33, .bool true)] (by simp [hg5]) ?_
            refine OI_static 22 [(0, .int .i64 ((n : Nat) : Int)), (1, .int .i64 ((later : Nat) : Int)), (2, .int .i64 most), (36, .bool true)] (by kernel_rfl) ?_
            refine OI_end rfl ?_
            refine X_then ?_
            refine V_true rfl ?_
            refine V_seq ?_
            refine V_region ?_
            refine OI_static 1 [(6, .bool true)] (by kernel_rfl) ?_
            refine OI_end rfl ?_
            refine X_then ?_
            refine V_ret ?_
            refine X_ret_then ?_
            exact X_return (.bool true) rfl ⟨rfl, hK0⟩
          · skip
            refine OI_eq [(0, .int .i64 ((n : Nat) : Int)), (1, .int .i64 ((later : Nat) : Int)), (2, .int .i64 most), (33, .bool false)] (by simp [hg5]) ?_
            refine OI_static 22 [(0, .int .i64 ((n : Nat) : Int)), (1, .int .i64 ((later : Nat) : Int)), (2, .int .i64 most), (36, .bool (decide (most > 6)))] (by kernel_rfl) ?_
            refine OI_end rfl ?_
            refine X_then ?_
            refine V_if (most > 6) (by kernel_rfl) (fun hc6 => ?_) (fun hc6 => ?_)
            · skip
              refine V_seq ?_
              refine V_region ?_
              refine OI_static 1 [(6, .bool true)] (by kernel_rfl) ?_
              refine OI_end rfl ?_
              refine X_then ?_
              refine V_ret ?_
              refine X_ret_then ?_
              exact X_return (.bool true) rfl ⟨rfl, hK0⟩
            · skip
              refine V_skip ?_
              refine X_then ?_
              refine V_seq ?_
              refine V_region ?_
              refine OI_call { callee := (Callee.value (Operand.func 11)), args := #[], argTypes := #[] } 11 #[] (some 37) (by kernel_rfl) (by kernel_rfl) (by kernel_rfl) (new_spec any_ _) ?_
              rintro _ w7 ⟨g9, rfl, hag10, hk8, hgeg9⟩
              refine ⟨_, rfl, ?_⟩
              replace hK0 := Keep.tr hK0 (Keep.ofNone hk8); have hzhK0 := Keep.size hK0
              have hltg9 := Ag.lt hag10
              refine OI_static 2 [(0, .int .i64 ((n : Nat) : Int)), (1, .int .i64 ((later : Nat) : Int)), (2, .int .i64 most), (7, .pointer (some ⟨g9, 0, none⟩))] (by kernel_rfl) ?_
              refine OI_end rfl ?_
              refine X_then ?_
              refine V_seq ?_
              refine V_seq ?_
              refine V_region ?_
              refine OI_static 2 [(0, .int .i64 ((n : Nat) : Int)), (1, .int .i64 ((later : Nat) : Int)), (2, .int .i64 most), (7, .pointer (some ⟨g9, 0, none⟩)), (39, .bool false)] (by kernel_rfl) ?_
              refine OI_end rfl ?_
              refine X_then ?_
              refine V_false rfl ?_
              refine V_skip ?_
              refine X_then ?_
              refine V_seq ?_
              refine V_seq ?_
              refine V_region ?_
              refine OI_static 1 [(0, .int .i64 ((n : Nat) : Int)), (1, .int .i64 ((later : Nat) : Int)), (2, .int .i64 most), (7, .pointer (some ⟨g9, 0, none⟩)), (8, .int .i64 0)] (by kernel_rfl) ?_
              refine OI_end rfl ?_
              refine X_then ?_
              refine V_block ?_
              refine V_pick [(0, .int .i64 ((n : Nat) : Int)), (1, .int .i64 ((later : Nat) : Int)), (2, .int .i64 most), (7, .pointer (some ⟨g9, 0, none⟩)), (8, .int .i64 0)] rfl ?_
              refine V_loop (fun k wI e => ∃ i : Nat, (k + i = later) ∧ (Ag any_ wI g9 (A2 i)) ∧ Keep (only g9) w7 wI ∧ e = [(0, .int .i64 ((n : Nat) : Int)), (1, .int .i64 ((later : Nat) : Int)), (2, .int .i64 most), (7, .pointer (some ⟨g9, 0, none⟩)), (8, .int .i64 ((i : Nat) : Int))]) later ⟨0, rfl, hag10, Keep.refl _ _, rfl⟩ ?_
              rintro k12 w11 _ ⟨i, hki, hA2, hk13, rfl⟩
              replace hK0 := Keep.fresh hK0 hk13 (by intro i hi hs; first | exact hs | exact Or.inl hs | exact Or.inr hs | (exfalso; have hs2 : i = g9 := hs; omega)); have hzhK0 := Keep.size hK0
              skip
              have hzhk13 := Keep.size hk13
              have hltg9 := Ag.lt hA2
              refine V_seq ?_
              refine V_seq ?_
              refine V_region ?_
              refine OI_static 3 [(0, .int .i64 ((n : Nat) : Int)), (1, .int .i64 ((later : Nat) : Int)), (2, .int .i64 most), (7, .pointer (some ⟨g9, 0, none⟩)), (8, .int .i64 ((i : Nat) : Int)), (42, .bool (decide (((i : Nat) : Int) < ((later : Nat) : Int))))] (by kernel_rfl) ?_
              refine OI_end rfl ?_
              refine X_then ?_
              refine V_if (((i : Nat) : Int) < ((later : Nat) : Int)) (by kernel_rfl) (fun hc14 => ?_) (fun hc14 => ?_)
              · skip
                refine V_skip ?_
                refine X_then ?_
                refine V_seq ?_
                refine V_block ?_
                refine V_region ?_
                refine OI_static 3 [(0, .int .i64 ((n : Nat) : Int)), (1, .int .i64 ((later : Nat) : Int)), (2, .int .i64 most), (7, .pointer (some ⟨g9, 0, none⟩)), (8, .int .i64 ((i : Nat) : Int)), (45, .pointer (some ⟨g9, 0, none⟩)), (47, .agg (Tk.cells (tk0 ((i : Nat) : Int) 2)).toArray)] (by kernel_rfl) ?_
                refine OI_call { callee := (Callee.value (Operand.func 12)), args := #[(Operand.tmp 45), (Operand.tmp 47)], argTypes := #[23, 28] } 12 #[.pointer (some ⟨g9, 0, none⟩), .agg (Tk.cells (tk0 ((i : Nat) : Int) 2)).toArray] (some 48) (by kernel_rfl) (by kernel_rfl) (by kernel_rfl) (put_is any_ g9 (A2 i) (tk0 ((i : Nat) : Int) 2) 0 (A2 (i + 1)) _ hA2 (fun _ _ => trivial) (put_A2 (by omega))) ?_
                rintro _ w15 ⟨rfl, hag17, hk16⟩
                refine ⟨_, rfl, ?_⟩
                replace hK0 := Keep.fresh hK0 hk16 (by intro i hi hs; first | exact hs | exact Or.inl hs | exact Or.inr hs | (exfalso; have hs2 : i = g9 := hs; omega)); have hzhK0 := Keep.size hK0
                skip
                replace hk13 := Keep.fresh hk13 hk16 (by intro i hi hs; first | exact hs | exact Or.inl hs | exact Or.inr hs | (exfalso; have hs2 : i = g9 := hs; omega)); have hzhk13 := Keep.size hk13
                have hltg9 := Ag.lt hag17
                refine OI_end rfl ?_
                refine X_block ?_
                refine X_then ?_
                refine V_region ?_
                have hw18 : IntKind.i64.wrap (((i : Nat) : Int) + 1) = ((i + 1 : Nat) : Int) := (wrap64_id (by omega) (by omega)).trans (by omega)
                refine OI_static 2 [(0, .int .i64 ((n : Nat) : Int)), (1, .int .i64 ((later : Nat) : Int)), (2, .int .i64 most), (7, .pointer (some ⟨g9, 0, none⟩)), (44, .int .i64 (IntKind.i64.wrap (((i : Nat) : Int) + 1)))] (by kernel_rfl) ?_
                refine OI_eq [(0, .int .i64 ((n : Nat) : Int)), (1, .int .i64 ((later : Nat) : Int)), (2, .int .i64 most), (7, .pointer (some ⟨g9, 0, none⟩)), (44, .int .i64 ((i + 1 : Nat) : Int))] (by rw [hw18]) ?_
                refine OI_static 3 [(0, .int .i64 ((n : Nat) : Int)), (1, .int .i64 ((later : Nat) : Int)), (2, .int .i64 most), (7, .pointer (some ⟨g9, 0, none⟩)), (8, .int .i64 ((i + 1 : Nat) : Int))] (by kernel_rfl) ?_
                refine OI_end rfl ?_
                exact V_again (k12 - 1) (by omega) [(0, .int .i64 ((n : Nat) : Int)), (1, .int .i64 ((later : Nat) : Int)), (2, .int .i64 most), (7, .pointer (some ⟨g9, 0, none⟩)), (8, .int .i64 ((i + 1 : Nat) : Int))] rfl ⟨i + 1, by omega, hag17, hk13, rfl⟩
              · skip
                refine V_exit ?_
                refine X_exit_then ?_
                refine X_exit_then ?_
                refine X_exit_here ?_
                refine X_then ?_
                refine V_seq ?_
                refine V_seq ?_
                refine V_region ?_
                refine OI_static 1 [(0, .int .i64 ((n : Nat) : Int)), (1, .int .i64 ((later : Nat) : Int)), (2, .int .i64 most), (7, .pointer (some ⟨g9, 0, none⟩)), (9, .int .i64 0)] (by kernel_rfl) ?_
                refine OI_end rfl ?_
                refine X_then ?_
                refine V_block ?_
                have hil : i = later := by omega
                rw [hil] at hA2
                refine V_pick [(0, .int .i64 ((n : Nat) : Int)), (1, .int .i64 ((later : Nat) : Int)), (2, .int .i64 most), (7, .pointer (some ⟨g9, 0, none⟩)), (9, .int .i64 0)] rfl ?_
                refine V_loop (fun k wI e => ∃ i : Nat, (k + i = n) ∧ (Ag any_ wI g9 (A1 i ++ A2 later)) ∧ Keep (only g9) w11 wI ∧ e = [(0, .int .i64 ((n : Nat) : Int)), (1, .int .i64 ((later : Nat) : Int)), (2, .int .i64 most), (7, .pointer (some ⟨g9, 0, none⟩)), (9, .int .i64 ((i : Nat) : Int))]) n ⟨0, rfl, hA2, Keep.refl _ _, rfl⟩ ?_
                rintro k20 w19 _ ⟨i, hkn, hA1, hk21, rfl⟩
                replace hK0 := Keep.fresh hK0 hk21 (by intro i hi hs; first | exact hs | exact Or.inl hs | exact Or.inr hs | (exfalso; have hs2 : i = g9 := hs; omega)); have hzhK0 := Keep.size hK0
                skip
                replace hk13 := Keep.fresh hk13 hk21 (by intro i hi hs; first | exact hs | exact Or.inl hs | exact Or.inr hs | (exfalso; have hs2 : i = g9 := hs; omega)); have hzhk13 := Keep.size hk13
                have hzhk21 := Keep.size hk21
                have hltg9 := Ag.lt hA1
                refine V_seq ?_
                refine V_seq ?_
                refine V_region ?_
                refine OI_static 3 [(0, .int .i64 ((n : Nat) : Int)), (1, .int .i64 ((later : Nat) : Int)), (2, .int .i64 most), (7, .pointer (some ⟨g9, 0, none⟩)), (9, .int .i64 ((i : Nat) : Int)), (51, .bool (decide (((i : Nat) : Int) < ((n : Nat) : Int))))] (by kernel_rfl) ?_
                refine OI_end rfl ?_
                refine X_then ?_
                refine V_if (((i : Nat) : Int) < ((n : Nat) : Int)) (by kernel_rfl) (fun hc22 => ?_) (fun hc22 => ?_)
                · skip
                  refine V_skip ?_
                  refine X_then ?_
                  refine V_seq ?_
                  refine V_block ?_
                  refine V_region ?_
                  have hw23 : IntKind.i64.wrap (10 + ((i : Nat) : Int)) = ((10 + i : Nat) : Int) := (wrap64_id (by omega) (by omega)).trans (by omega)
                  refine OI_static 3 [(0, .int .i64 ((n : Nat) : Int)), (1, .int .i64 ((later : Nat) : Int)), (2, .int .i64 most), (7, .pointer (some ⟨g9, 0, none⟩)), (9, .int .i64 ((i : Nat) : Int)), (54, .pointer (some ⟨g9, 0, none⟩)), (56, .int .i64 (IntKind.i64.wrap (10 + ((i : Nat) : Int))))] (by kernel_rfl) ?_
                  refine OI_eq [(0, .int .i64 ((n : Nat) : Int)), (1, .int .i64 ((later : Nat) : Int)), (2, .int .i64 most), (7, .pointer (some ⟨g9, 0, none⟩)), (9, .int .i64 ((i : Nat) : Int)), (54, .pointer (some ⟨g9, 0, none⟩)), (56, .int .i64 ((10 + i : Nat) : Int))] (by rw [hw23]) ?_
                  refine OI_static 4 [(0, .int .i64 ((n : Nat) : Int)), (1, .int .i64 ((later : Nat) : Int)), (2, .int .i64 most), (7, .pointer (some ⟨g9, 0, none⟩)), (9, .int .i64 ((i : Nat) : Int)), (54, .pointer (some ⟨g9, 0, none⟩)), (57, .agg (Tk.cells (tk0 ((10 + i : Nat) : Int) 1)).toArray)] (by kernel_rfl) ?_
                  refine OI_call { callee := (Callee.value (Operand.func 12)), args := #[(Operand.tmp 54), (Operand.tmp 57)], argTypes := #[23, 28] } 12 #[.pointer (some ⟨g9, 0, none⟩), .agg (Tk.cells (tk0 ((10 + i : Nat) : Int) 1)).toArray] (some 58) (by kernel_rfl) (by kernel_rfl) (by kernel_rfl) (put_is any_ g9 (A1 i ++ A2 later) (tk0 ((10 + i : Nat) : Int) 1) 0 (A1 (i + 1) ++ A2 later) _ hA1 (fun _ _ => trivial) (put_A1 (by omega) (by omega))) ?_
                  rintro _ w24 ⟨rfl, hag26, hk25⟩
                  refine ⟨_, rfl, ?_⟩
                  replace hK0 := Keep.fresh hK0 hk25 (by intro i hi hs; first | exact hs | exact Or.inl hs | exact Or.inr hs | (exfalso; have hs2 : i = g9 := hs; omega)); have hzhK0 := Keep.size hK0
                  skip
                  replace hk13 := Keep.fresh hk13 hk25 (by intro i hi hs; first | exact hs | exact Or.inl hs | exact Or.inr hs | (exfalso; have hs2 : i = g9 := hs; omega)); have hzhk13 := Keep.size hk13
                  replace hk21 := Keep.fresh hk21 hk25 (by intro i hi hs; first | exact hs | exact Or.inl hs | exact Or.inr hs | (exfalso; have hs2 : i = g9 := hs; omega)); have hzhk21 := Keep.size hk21
                  have hltg9 := Ag.lt hag26
                  refine OI_end rfl ?_
                  refine X_block ?_
                  refine X_then ?_
                  refine V_region ?_
                  have hw27 : IntKind.i64.wrap (((i : Nat) : Int) + 1) = ((i + 1 : Nat) : Int) := (wrap64_id (by omega) (by omega)).trans (by omega)
                  refine OI_static 2 [(0, .int .i64 ((n : Nat) : Int)), (1, .int .i64 ((later : Nat) : Int)), (2, .int .i64 most), (7, .pointer (some ⟨g9, 0, none⟩)), (53, .int .i64 (IntKind.i64.wrap (((i : Nat) : Int) + 1)))] (by kernel_rfl) ?_
                  refine OI_eq [(0, .int .i64 ((n : Nat) : Int)), (1, .int .i64 ((later : Nat) : Int)), (2, .int .i64 most), (7, .pointer (some ⟨g9, 0, none⟩)), (53, .int .i64 ((i + 1 : Nat) : Int))] (by rw [hw27]) ?_
                  refine OI_static 3 [(0, .int .i64 ((n : Nat) : Int)), (1, .int .i64 ((later : Nat) : Int)), (2, .int .i64 most), (7, .pointer (some ⟨g9, 0, none⟩)), (9, .int .i64 ((i + 1 : Nat) : Int))] (by kernel_rfl) ?_
                  refine OI_end rfl ?_
                  exact V_again (k20 - 1) (by omega) [(0, .int .i64 ((n : Nat) : Int)), (1, .int .i64 ((later : Nat) : Int)), (2, .int .i64 most), (7, .pointer (some ⟨g9, 0, none⟩)), (9, .int .i64 ((i + 1 : Nat) : Int))] rfl ⟨i + 1, by omega, hag26, hk21, rfl⟩
                · skip
                  refine V_exit ?_
                  refine X_exit_then ?_
                  refine X_exit_then ?_
                  refine X_exit_here ?_
                  refine X_then ?_
                  refine V_seq ?_
                  refine V_region ?_
                  refine OI_static 1 [(0, .int .i64 ((n : Nat) : Int)), (1, .int .i64 ((later : Nat) : Int)), (2, .int .i64 most), (7, .pointer (some ⟨g9, 0, none⟩)), (10, .slice none 0 0)] (by kernel_rfl) ?_
                  refine OI_end rfl ?_
                  refine X_then ?_
                  refine V_seq ?_
                  refine V_seq ?_
                  refine V_region ?_
                  refine OI_static 1 [(0, .int .i64 ((n : Nat) : Int)), (1, .int .i64 ((later : Nat) : Int)), (2, .int .i64 most), (7, .pointer (some ⟨g9, 0, none⟩)), (10, .slice none 0 0), (11, .int .i64 1)] (by kernel_rfl) ?_
                  refine OI_end rfl ?_
                  refine X_then ?_
                  refine V_block ?_
                  have hin : i = n := by omega
                  rw [hin] at hA1
                  obtain ⟨N, hN⟩ : ∃ N : Nat, N = (World.heap w19).size := ⟨_, rfl⟩
                  have hag2 : Ag (fun k => k < N) w19 g9 ((all12 n later).drop 0) := by obtain ⟨h1, h2, A, cap, h3, h4⟩ := hA1; exact ⟨h1, h2, A, cap, h3, fun k hk => by have := SlT.lt h3.sl k hk; omega⟩
                  have hgN : g9 < N := by have := Ag.lt hA1; omega
                  refine V_pick [(0, .int .i64 ((n : Nat) : Int)), (1, .int .i64 ((later : Nat) : Int)), (2, .int .i64 most), (7, .pointer (some ⟨g9, 0, none⟩)), (10, .slice none 0 0), (11, .int .i64 1)] rfl ?_
                  refine V_loop (fun k wI e => ∃ now : Nat, ∃ d : Nat, ∃ A : Option Addr, ∃ cap : Nat, ∃ xs : List Int, (k + now = 15) ∧ (1 ≤ now) ∧ (d ≤ n + later) ∧ (n + later + now ≤ 15 + d) ∧ (now = 1 → d = 0) ∧ (Ag (fun k => k < N) wI g9 ((all12 n later).drop d)) ∧ (SlT wI 1 intc A cap xs) ∧ (xs = (nm12 n later).take d) ∧ (∀ k, inA A k → N ≤ k) ∧ Keep (fun k => k = g9 ∨ N ≤ k) w19 wI ∧ e = [(0, .int .i64 ((n : Nat) : Int)), (1, .int .i64 ((later : Nat) : Int)), (2, .int .i64 most), (7, .pointer (some ⟨g9, 0, none⟩)), (10, .slice A xs.length cap), (11, .int .i64 ((now : Nat) : Int))]) 14 ⟨1, 0, none, 0, [], rfl, Nat.le_refl _, Nat.zero_le _, by omega, fun _ => rfl, hag2, SlT.nil _ _ _, rfl, fun k hk => (inA_none hk).elim, Keep.refl _ _, rfl⟩ ?_
                  rintro k29 w28 _ ⟨now, d, A, cap, xs, hkw, hnow, hd, hrem, hd1, hag2, hgot, hxs, hown, hk30, rfl⟩
                  replace hK0 := Keep.fresh hK0 hk30 (by intro i hi hs; first | exact hs | (rcases hs with hs | hs <;> first | exact hs | exact Or.inl hs | exact Or.inr hs | (exfalso; have hs2 : i = g9 := hs; omega) | (exfalso; have hs2 : N ≤ i := hs; omega))); have hzhK0 := Keep.size hK0
                  replace hk13 := Keep.fresh hk13 hk30 (by intro i hi hs; first | exact hs | (rcases hs with hs | hs <;> first | exact hs | exact Or.inl hs | exact Or.inr hs | (exfalso; have hs2 : i = g9 := hs; omega) | (exfalso; have hs2 : N ≤ i := hs; omega))); have hzhk13 := Keep.size hk13
                  replace hk21 := Keep.fresh hk21 hk30 (by intro i hi hs; first | exact hs | (rcases hs with hs | hs <;> first | exact hs | exact Or.inl hs | exact Or.inr hs | (exfalso; have hs2 : i = g9 := hs; omega) | (exfalso; have hs2 : N ≤ i := hs; omega))); have hzhk21 := Keep.size hk21
                  have hzhk30 := Keep.size hk30
                  have hltg9 := Ag.lt hag2
                  have hltA := SlT.lt hgot
                  refine V_seq ?_
                  refine V_seq ?_
                  refine V_region ?_
                  refine OI_static 2 [(0, .int .i64 ((n : Nat) : Int)), (1, .int .i64 ((later : Nat) : Int)), (2, .int .i64 most), (7, .pointer (some ⟨g9, 0, none⟩)), (10, .slice A xs.length cap), (11, .int .i64 ((now : Nat) : Int)), (60, .bool (decide (((now : Nat) : Int) ≤ 14)))] (by kernel_rfl) ?_
                  refine OI_end rfl ?_
                  refine X_then ?_
                  refine V_if (((now : Nat) : Int) ≤ 14) (by kernel_rfl) (fun hc31 => ?_) (fun hc31 => ?_)
                  · skip
                    refine V_skip ?_
                    refine X_then ?_
                    refine V_seq ?_
                    refine V_block ?_
                    refine V_seq ?_
                    refine V_region ?_
                    refine OI_static 3 [(0, .int .i64 ((n : Nat) : Int)), (1, .int .i64 ((later : Nat) : Int)), (2, .int .i64 most), (7, .pointer (some ⟨g9, 0, none⟩)), (10, .slice A xs.length cap), (11, .int .i64 ((now : Nat) : Int)), (63, .pointer (some ⟨g9, 0, none⟩)), (64, .int .i64 ((now : Nat) : Int)), (65, .int .i64 most)] (by kernel_rfl) ?_
                    refine OI_call { callee := (Callee.value (Operand.func 13)), args := #[(Operand.tmp 63), (Operand.tmp 64), (Operand.tmp 65)], argTypes := #[23, 3, 3] } 13 #[.pointer (some ⟨g9, 0, none⟩), .int .i64 ((now : Nat) : Int), .int .i64 most] (some 66) (by kernel_rfl) (by kernel_rfl) (by kernel_rfl) (due_car (fun k => k < N) g9 n later d ((now : Nat) : Int) most _ hag2 hd (by omega) (by omega) (by omega) (by omega)) ?_
                    rintro _ w32 ⟨A9, cap9, r, rfl, h9, hag34, hk33, hown9, hr, hrd, hrm, hr1⟩
                    refine ⟨_, rfl, ?_⟩
                    replace hgot := SlT.keep hgot hk33 (fun k hk hs => by have hs : k = g9 := hs; have := hown k hk; omega)
                    replace hK0 := Keep.fresh hK0 hk33 (by intro i hi hs; first | exact hs | exact Or.inl hs | exact Or.inr hs | (exfalso; have hs2 : i = g9 := hs; omega)); have hzhK0 := Keep.size hK0
                    replace hk13 := Keep.fresh hk13 hk33 (by intro i hi hs; first | exact hs | exact Or.inl hs | exact Or.inr hs | (exfalso; have hs2 : i = g9 := hs; omega)); have hzhk13 := Keep.size hk13
                    replace hk21 := Keep.fresh hk21 hk33 (by intro i hi hs; first | exact hs | exact Or.inl hs | exact Or.inr hs | (exfalso; have hs2 : i = g9 := hs; omega)); have hzhk21 := Keep.size hk21
                    replace hk30 := Keep.fresh hk30 hk33 (by intro i hi hs; first | exact hs | exact Or.inl hs | exact Or.inr hs | (exfalso; have hs2 : i = g9 := hs; omega)); have hzhk30 := Keep.size hk30
                    skip
                    have hltg9 := Ag.lt hag34
                    refine OI_static 5 [(0, .int .i64 ((n : Nat) : Int)), (1, .int .i64 ((later : Nat) : Int)), (2, .int .i64 most), (7, .pointer (some ⟨g9, 0, none⟩)), (10, .slice A xs.length cap), (11, .int .i64 ((now : Nat) : Int)), (12, .slice A9 r.length cap9)] (by kernel_rfl) ?_
                    refine OI_end rfl ?_
                    refine X_then ?_
                    refine V_seq ?_
                    refine V_seq ?_
                    refine V_region ?_
                    refine OI_static 4 [(0, .int .i64 ((n : Nat) : Int)), (1, .int .i64 ((later : Nat) : Int)), (2, .int .i64 most), (7, .pointer (some ⟨g9, 0, none⟩)), (10, .slice A xs.length cap), (11, .int .i64 ((now : Nat) : Int)), (12, .slice A9 r.length cap9), (70, .bool (decide (((r.length : Nat) : Int) > most)))] (by kernel_rfl) ?_
                    refine OI_end rfl ?_
                    refine X_then ?_
                    refine V_if (((r.length : Nat) : Int) > most) (by kernel_rfl) (fun hc35 => ?_) (fun hc35 => ?_)
                    · skip
                      exact (by omega : False).elim
                    · skip
                      refine V_skip ?_
                      refine X_then ?_
                      refine V_seq ?_
                      refine V_region ?_
                      refine OI_static 1 [(0, .int .i64 ((n : Nat) : Int)), (1, .int .i64 ((later : Nat) : Int)), (2, .int .i64 most), (7, .pointer (some ⟨g9, 0, none⟩)), (10, .slice A xs.length cap), (11, .int .i64 ((now : Nat) : Int)), (12, .slice A9 r.length cap9), (13, .int .i64 0)] (by kernel_rfl) ?_
                      refine OI_end rfl ?_
                      refine X_then ?_
                      refine V_block ?_
                      have hdis0 : ∀ k, inA A k → ¬ inA A9 k := fun k hk h => by have h1 := hltA k hk; have h2 := hown9 k h; omega
                      refine V_pick [(0, .int .i64 ((n : Nat) : Int)), (1, .int .i64 ((later : Nat) : Int)), (2, .int .i64 most), (7, .pointer (some ⟨g9, 0, none⟩)), (10, .slice A xs.length cap), (11, .int .i64 ((now : Nat) : Int)), (12, .slice A9 r.length cap9), (13, .int .i64 0)] rfl ?_
                      refine V_loop (fun k wI e => ∃ i : Nat, ∃ Ai : Option Addr, ∃ capi : Nat, ∃ xs : List Int, (k + i = r.length) ∧ (SlT wI 1 intc Ai capi xs) ∧ (xs = (nm12 n later).take (d + i)) ∧ (∀ k, inA Ai k → N ≤ k) ∧ (∀ k, inA Ai k → ¬ inA A9 k) ∧ (SlT wI 36 Tk.cells A9 cap9 r) ∧ Keep (ge_ N) w32 wI ∧ e = [(0, .int .i64 ((n : Nat) : Int)), (1, .int .i64 ((later : Nat) : Int)), (2, .int .i64 most), (7, .pointer (some ⟨g9, 0, none⟩)), (10, .slice Ai xs.length capi), (11, .int .i64 ((now : Nat) : Int)), (12, .slice A9 r.length cap9), (13, .int .i64 ((i : Nat) : Int))]) r.length ⟨0, A, cap, xs, rfl, hgot, hxs, hown, hdis0, h9, Keep.refl _ _, rfl⟩ ?_
                      rintro k37 w36 _ ⟨i, Ai, capi, xs, hki3, hgoti, hxsi, howni, hdis, h9, hk38, rfl⟩
                      replace hK0 := Keep.fresh hK0 hk38 (by intro i hi hs; first | exact hs | exact Or.inr hs | (exfalso; have hs2 : N ≤ i := hs; omega)); have hzhK0 := Keep.size hK0
                      replace hk13 := Keep.fresh hk13 hk38 (by intro i hi hs; first | exact hs | exact Or.inr hs | (exfalso; have hs2 : N ≤ i := hs; omega)); have hzhk13 := Keep.size hk13
                      replace hk21 := Keep.fresh hk21 hk38 (by intro i hi hs; first | exact hs | exact Or.inr hs | (exfalso; have hs2 : N ≤ i := hs; omega)); have hzhk21 := Keep.size hk21
                      replace hk30 := Keep.fresh hk30 hk38 (by intro i hi hs; first | exact hs | exact Or.inr hs | (exfalso; have hs2 : N ≤ i := hs; omega)); have hzhk30 := Keep.size hk30
                      replace hag34 := Ag.keep hag34 hk38 (by show ¬ (N ≤ _); omega) (fun k hk => by show ¬ (N ≤ _); omega)
                      have hzhk38 := Keep.size hk38
                      refine V_seq ?_
                      refine V_seq ?_
                      refine V_region ?_
                      refine OI_static 4 [(0, .int .i64 ((n : Nat) : Int)), (1, .int .i64 ((later : Nat) : Int)), (2, .int .i64 most), (7, .pointer (some ⟨g9, 0, none⟩)), (10, .slice Ai xs.length capi), (11, .int .i64 ((now : Nat) : Int)), (12, .slice A9 r.length cap9), (13, .int .i64 ((i : Nat) : Int)), (74, .bool (decide (((i : Nat) : Int) < ((r.length : Nat) : Int))))] (by kernel_rfl) ?_
                      refine OI_end rfl ?_
                      refine X_then ?_
                      refine V_if (((i : Nat) : Int) < ((r.length : Nat) : Int)) (by kernel_rfl) (fun hc39 => ?_) (fun hc39 => ?_)
                      · skip
                        refine V_skip ?_
                        refine X_then ?_
                        refine V_seq ?_
                        refine V_block ?_
                        refine V_region ?_
                        refine OI_static 3 [(0, .int .i64 ((n : Nat) : Int)), (1, .int .i64 ((later : Nat) : Int)), (2, .int .i64 most), (7, .pointer (some ⟨g9, 0, none⟩)), (11, .int .i64 ((now : Nat) : Int)), (12, .slice A9 r.length cap9), (13, .int .i64 ((i : Nat) : Int)), (77, .slice Ai xs.length capi), (78, .slice A9 r.length cap9), (79, .int .i64 ((i : Nat) : Int))] (by kernel_rfl) ?_
                        obtain ⟨b40, o40, L40, T40, rfl, hat40⟩ := SlT.open_ h9 (by first | omega | simp | (simp; omega))
                        have hb40lt := hat40.blk.lt
                        refine OI_pure (some 80) (.indexAddr 31 (.tmp 78) (.tmp 79)) (by kernel_rfl) (pure_idxN (b := b40) (o := o40) (len := r.length) (cap := cap9) (kd := .i64) (j := i) (E := 28) (sz := 36) (by_ := 64) (by kernel_rfl) (by kernel_rfl) (by kernel_rfl) (by omega)) ?_
                        refine OI_static 5 [(0, .int .i64 ((n : Nat) : Int)), (1, .int .i64 ((later : Nat) : Int)), (2, .int .i64 most), (7, .pointer (some ⟨g9, 0, none⟩)), (11, .int .i64 ((now : Nat) : Int)), (12, .slice (some ⟨b40, o40, none⟩) r.length cap9), (13, .int .i64 ((i : Nat) : Int)), (77, .slice Ai xs.length capi), (81, .pointer (some ⟨b40, o40 + i * 36, none⟩))] (by kernel_rfl) ?_
                        obtain ⟨x41, hx42⟩ : ∃ x, r[i]? = some x := ⟨_, List.getElem?_eq_getElem (by omega)⟩
                        refine OI_cell 3 (.tmp 81) (o40 + i * 36) (.int .i64 x41.name) (some 82) (by kernel_rfl) (by kernel_rfl) hat40.blk (m := 1) (by kernel_rfl) (At.cell0 hat40 (es_at hx42) rfl) ?_
                        refine OI_slit (E := 3) (zv := .int .i64 0) (sz := 1) (by_ := 8) 22 1 #[(0, (Operand.tmp 82))] [.int .i64 x41.name] [.int .i64 x41.name] (some 83) (by kernel_rfl) (by kernel_rfl) (by kernel_rfl) (by omega) rfl (by omega) (by intro v hv; simp only [List.mem_cons, List.not_mem_nil, or_false] at hv; rcases hv with rfl <;> rfl) (by kernel_rfl) rfl ?_
                        intro b43 w43 e43 hb43 k43 z43
                        replace hat40 := hat40.keep k43 (fun f => f)
                        have hb40lt := hat40.blk.lt
                        replace hgoti := SlT.keep0 hgoti k43
                        replace h9 := SlT.keep0 h9 k43
                        replace hK0 := Keep.tr hK0 (Keep.ofNone k43); have hzhK0 := Keep.size hK0
                        replace hk13 := Keep.tr hk13 (Keep.ofNone k43); have hzhk13 := Keep.size hk13
                        replace hk21 := Keep.tr hk21 (Keep.ofNone k43); have hzhk21 := Keep.size hk21
                        replace hk30 := Keep.tr hk30 (Keep.ofNone k43); have hzhk30 := Keep.size hk30
                        replace hag34 := Ag.keep0 hag34 k43
                        replace hk38 := Keep.tr hk38 (Keep.ofNone k43); have hzhk38 := Keep.size hk38
                        have hb43lt := hb43.lt
                        have hxl : xs.length ≤ 12 := by rw [hxsi, List.length_take, nm12, List.length_map, all12_len]; omega
                        refine OI_append (t := 22) (at2 := 22) (E := 3) (E2 := 3) (sz := 1) (by_ := 8) (zv := .int .i64 0) (m := xs.length) (k := 1) (.tmp 77) (.tmp 83) (.slice Ai xs.length capi) (.slice (some ⟨b43, 0, none⟩) 1 1) (some 84) (by kernel_rfl) (by kernel_rfl) (by kernel_rfl) (by kernel_rfl) (by kernel_rfl) (by kernel_rfl) (by kernel_rfl) (SlT.slr hgoti) (slr_one hb43 (intc_len x41.name)) (intc_one _) (by omega) (by omega) (by omega) (by omega) ?_
                        intro v w44 hap
                        obtain ⟨A8, cap8, rfl, h8, hk8, hown8x⟩ := app_one (f := intc) (xs := xs) (x := x41.name) hap (fun x _ => intc_len x) (intc_len _)
                        replace hk8 : Keep (ge_ N) w43 w44 := Keep.mono hk8 (fun k _ hk => howni k hk)
                        have hown8 : ∀ k, inA A8 k → N ≤ k := fun k hk => by rcases hown8x k hk with h | h; exact howni k h; omega
                        have hlt9 := SlT.lt h9
                        have hdis8 : ∀ k, inA A8 k → ¬ inA (some ⟨b40, o40, none⟩) k := fun k hk h => by rcases hown8x k hk with h1 | h1; exact hdis k h1 h; have := hlt9 k h; omega
                        have h9k := SlT.keep h9 hap.keep (fun k hk hs => hdis k (blkOf_inA hs) hk)
                        replace hK0 := Keep.fresh hK0 hk8 (by intro i hi hs; first | exact hs | exact Or.inr hs | (exfalso; have hs2 : N ≤ i := hs; omega)); have hzhK0 := Keep.size hK0
                        replace hk13 := Keep.fresh hk13 hk8 (by intro i hi hs; first | exact hs | exact Or.inr hs | (exfalso; have hs2 : N ≤ i := hs; omega)); have hzhk13 := Keep.size hk13
                        replace hk21 := Keep.fresh hk21 hk8 (by intro i hi hs; first | exact hs | exact Or.inr hs | (exfalso; have hs2 : N ≤ i := hs; omega)); have hzhk21 := Keep.size hk21
                        replace hk30 := Keep.fresh hk30 hk8 (by intro i hi hs; first | exact hs | exact Or.inr hs | (exfalso; have hs2 : N ≤ i := hs; omega)); have hzhk30 := Keep.size hk30
                        replace hag34 := Ag.keep hag34 hk8 (by show ¬ (N ≤ _); omega) (fun k hk => by show ¬ (N ≤ _); omega)
                        replace hk38 := Keep.fresh hk38 hk8 (by intro i hi hs; first | exact hs | exact Or.inr hs | (exfalso; have hs2 : N ≤ i := hs; omega)); have hzhk38 := Keep.size hk38
                        refine OI_static 9 [(0, .int .i64 ((n : Nat) : Int)), (1, .int .i64 ((later : Nat) : Int)), (2, .int .i64 most), (7, .pointer (some ⟨g9, 0, none⟩)), (10, .slice A8 ((xs ++ [x41.name]).length) cap8), (11, .int .i64 ((now : Nat) : Int)), (12, .slice (some ⟨b40, o40, none⟩) r.length cap9), (13, .int .i64 ((i : Nat) : Int))] (by kernel_rfl) ?_
                        refine OI_end rfl ?_
                        refine X_block ?_
                        refine X_then ?_
                        refine V_region ?_
                        have hw45 : IntKind.i64.wrap (((i : Nat) : Int) + 1) = ((i + 1 : Nat) : Int) := (wrap64_id (by omega) (by omega)).trans (by omega)
                        refine OI_static 2 [(0, .int .i64 ((n : Nat) : Int)), (1, .int .i64 ((later : Nat) : Int)), (2, .int .i64 most), (7, .pointer (some ⟨g9, 0, none⟩)), (10, .slice A8 ((xs ++ [x41.name]).length) cap8), (11, .int .i64 ((now : Nat) : Int)), (12, .slice (some ⟨b40, o40, none⟩) r.length cap9), (76, .int .i64 (IntKind.i64.wrap (((i : Nat) : Int) + 1)))] (by kernel_rfl) ?_
                        refine OI_eq [(0, .int .i64 ((n : Nat) : Int)), (1, .int .i64 ((later : Nat) : Int)), (2, .int .i64 most), (7, .pointer (some ⟨g9, 0, none⟩)), (10, .slice A8 ((xs ++ [x41.name]).length) cap8), (11, .int .i64 ((now : Nat) : Int)), (12, .slice (some ⟨b40, o40, none⟩) r.length cap9), (76, .int .i64 ((i + 1 : Nat) : Int))] (by rw [hw45]) ?_
                        refine OI_static 3 [(0, .int .i64 ((n : Nat) : Int)), (1, .int .i64 ((later : Nat) : Int)), (2, .int .i64 most), (7, .pointer (some ⟨g9, 0, none⟩)), (10, .slice A8 ((xs ++ [x41.name]).length) cap8), (11, .int .i64 ((now : Nat) : Int)), (12, .slice (some ⟨b40, o40, none⟩) r.length cap9), (13, .int .i64 ((i + 1 : Nat) : Int))] (by kernel_rfl) ?_
                        refine OI_end rfl ?_
                        exact V_again (k37 - 1) (by omega) [(0, .int .i64 ((n : Nat) : Int)), (1, .int .i64 ((later : Nat) : Int)), (2, .int .i64 most), (7, .pointer (some ⟨g9, 0, none⟩)), (10, .slice A8 ((xs ++ [x41.name]).length) cap8), (11, .int .i64 ((now : Nat) : Int)), (12, .slice (some ⟨b40, o40, none⟩) r.length cap9), (13, .int .i64 ((i + 1 : Nat) : Int))] rfl ⟨i + 1, A8, cap8, xs ++ [x41.name], by omega, h8, by rw [hxsi, nm12_succ (hr i x41 hx42), Nat.add_assoc], hown8, hdis8, h9k, hk38, rfl⟩
                      · skip
                        refine V_exit ?_
                        refine X_exit_then ?_
                        refine X_exit_then ?_
                        refine X_exit_here ?_
                        refine X_block ?_
                        refine X_then ?_
                        refine V_region ?_
                        have hw46 : IntKind.i64.wrap (((now : Nat) : Int) + 1) = ((now + 1 : Nat) : Int) := (wrap64_id (by omega) (by omega)).trans (by omega)
                        refine OI_static 2 [(0, .int .i64 ((n : Nat) : Int)), (1, .int .i64 ((later : Nat) : Int)), (2, .int .i64 most), (7, .pointer (some ⟨g9, 0, none⟩)), (10, .slice Ai xs.length capi), (62, .int .i64 (IntKind.i64.wrap (((now : Nat) : Int) + 1)))] (by kernel_rfl) ?_
                        refine OI_eq [(0, .int .i64 ((n : Nat) : Int)), (1, .int .i64 ((later : Nat) : Int)), (2, .int .i64 most), (7, .pointer (some ⟨g9, 0, none⟩)), (10, .slice Ai xs.length capi), (62, .int .i64 ((now + 1 : Nat) : Int))] (by rw [hw46]) ?_
                        refine OI_static 3 [(0, .int .i64 ((n : Nat) : Int)), (1, .int .i64 ((later : Nat) : Int)), (2, .int .i64 most), (7, .pointer (some ⟨g9, 0, none⟩)), (10, .slice Ai xs.length capi), (11, .int .i64 ((now + 1 : Nat) : Int))] (by kernel_rfl) ?_
                        refine OI_end rfl ?_
                        exact V_again (k29 - 1) (by omega) [(0, .int .i64 ((n : Nat) : Int)), (1, .int .i64 ((later : Nat) : Int)), (2, .int .i64 most), (7, .pointer (some ⟨g9, 0, none⟩)), (10, .slice Ai xs.length capi), (11, .int .i64 ((now + 1 : Nat) : Int))] rfl ⟨now + 1, d + r.length, Ai, capi, xs, by omega, by omega, by omega, by omega, by omega, hag34, hgoti, by rw [hxsi, (by omega : i = r.length)], howni, hk30, rfl⟩
                  · skip
                    refine V_exit ?_
                    refine X_exit_then ?_
                    refine X_exit_then ?_
                    refine X_exit_here ?_
                    refine X_then ?_
                    refine V_seq ?_
                    refine V_seq ?_
                    refine V_region ?_
                    have hw47 : IntKind.i64.wrap (((n : Nat) : Int) + ((later : Nat) : Int)) = ((n + later : Nat) : Int) := (wrap64_id (by omega) (by omega)).trans (by omega)
                    refine OI_static 5 [(0, .int .i64 ((n : Nat) : Int)), (10, .slice A xs.length cap), (86, .int .i64 ((xs.length : Nat) : Int)), (89, .int .i64 (IntKind.i64.wrap (((n : Nat) : Int) + ((later : Nat) : Int))))] (by kernel_rfl) ?_
                    refine OI_eq [(0, .int .i64 ((n : Nat) : Int)), (10, .slice A xs.length cap), (86, .int .i64 ((xs.length : Nat) : Int)), (89, .int .i64 ((n + later : Nat) : Int))] (by rw [hw47]) ?_
                    refine OI_static 6 [(0, .int .i64 ((n : Nat) : Int)), (10, .slice A xs.length cap), (90, .bool (!(decide (((xs.length : Nat) : Int) = ((n + later : Nat) : Int)))))] (by kernel_rfl) ?_
                    refine OI_end rfl ?_
                    refine X_then ?_
                    refine V_not (((xs.length : Nat) : Int) = ((n + later : Nat) : Int)) (by kernel_rfl) (fun hc48 => ?_) (fun hc48 => ?_)
                    · skip
                      have hxl0 : xs.length = n + later := by rw [hxs, List.take_of_length_le (by rw [nm12, List.length_map, all12_len]; omega), nm12, List.length_map, all12_len]
                      exact (by omega : False).elim
                    · skip
                      have hxl0 : xs.length = n + later := by rw [hxs, List.take_of_length_le (by rw [nm12, List.length_map, all12_len]; omega), nm12, List.length_map, all12_len]
                      refine V_skip ?_
                      refine X_then ?_
                      refine V_seq ?_
                      refine V_seq ?_
                      refine V_region ?_
                      refine OI_static 1 [(0, .int .i64 ((n : Nat) : Int)), (10, .slice A xs.length cap), (14, .int .i64 0)] (by kernel_rfl) ?_
                      refine OI_end rfl ?_
                      refine X_then ?_
                      refine V_block ?_
                      have hall : xs = nm12 n later := by rw [hxs, List.take_of_length_le (by rw [nm12, List.length_map, all12_len]; omega)]
                      have hxl : xs.length = n + later := by rw [hall, nm12, List.length_map, all12_len]
                      refine V_pick [(0, .int .i64 ((n : Nat) : Int)), (10, .slice A xs.length cap), (14, .int .i64 0)] rfl ?_
                      refine V_loop (fun k wI e => ∃ i : Nat, (k + i = xs.length) ∧ w28 = wI ∧ e = [(0, .int .i64 ((n : Nat) : Int)), (10, .slice A xs.length cap), (14, .int .i64 ((i : Nat) : Int))]) xs.length ⟨0, rfl, rfl, rfl⟩ ?_
                      rintro k50 _ _ ⟨i, hki4, rfl, rfl⟩
                      refine V_seq ?_
                      refine V_seq ?_
                      refine V_region ?_
                      refine OI_static 4 [(0, .int .i64 ((n : Nat) : Int)), (10, .slice A xs.length cap), (14, .int .i64 ((i : Nat) : Int)), (94, .bool (decide (((i : Nat) : Int) < ((xs.length : Nat) : Int))))] (by kernel_rfl) ?_
                      refine OI_end rfl ?_
                      refine X_then ?_
                      refine V_if (((i : Nat) : Int) < ((xs.length : Nat) : Int)) (by kernel_rfl) (fun hc51 => ?_) (fun hc51 => ?_)
                      · skip
                        refine V_skip ?_
                        refine X_then ?_
                        refine V_seq ?_
                        refine V_block ?_
                        refine V_seq ?_
                        refine V_region ?_
                        refine OI_static 4 [(0, .int .i64 ((n : Nat) : Int)), (10, .slice A xs.length cap), (14, .int .i64 ((i : Nat) : Int)), (100, .bool (decide (((i : Nat) : Int) < ((n : Nat) : Int))))] (by kernel_rfl) ?_
                        by_cases hg52 : ((i : Nat) : Int) < ((n : Nat) : Int)
                        · skip
                          refine OI_eq [(0, .int .i64 ((n : Nat) : Int)), (10, .slice A xs.length cap), (14, .int .i64 ((i : Nat) : Int)), (100, .bool true)] (by simp [hg52]) ?_
                          refine OI_static 6 [(0, .int .i64 ((n : Nat) : Int)), (10, .slice A xs.length cap), (14, .int .i64 ((i : Nat) : Int)), (100, .bool true), (101, .slice A xs.length cap), (102, .int .i64 ((i : Nat) : Int))] (by kernel_rfl) ?_
                          obtain ⟨b53, o53, L53, T53, rfl, hat53⟩ := SlT.open_ hgot (by first | omega | simp | (simp; omega))
                          have hb53lt := hat53.blk.lt
                          refine OI_pure (some 103) (.indexAddr 22 (.tmp 101) (.tmp 102)) (by kernel_rfl) (pure_idxN (b := b53) (o := o53) (len := xs.length) (cap := cap) (kd := .i64) (j := i) (E := 3) (sz := 1) (by_ := 8) (by kernel_rfl) (by kernel_rfl) (by kernel_rfl) (by omega)) ?_
                          obtain ⟨x54, hx55⟩ : ∃ x, xs[i]? = some x := ⟨_, List.getElem?_eq_getElem (by omega)⟩
                          have hvx54 : x54 = (if i < n then (10 + i : Int) else (i : Int) - n) := by rw [hall, nm12, List.getElem?_map] at hx55; obtain ⟨y, hy, rfl⟩ := Option.map_eq_some_iff.1 hx55; exact (all12_at hy).2.2
                          have hvx542 : (i < n → x54 = 10 + i) ∧ (¬ i < n → x54 = (i : Int) - n) := by constructor <;> intro hh <;> simp [hvx54, hh]
                          refine OI_cell 3 (.tmp 103) (o53 + i * 1) (.int .i64 x54) (some 104) (by kernel_rfl) (by kernel_rfl) hat53.blk (m := 1) (by kernel_rfl) (At.cell0 hat53 (es_at hx55) rfl) ?_
                          have hw56 : IntKind.i64.wrap (10 + ((i : Nat) : Int)) = ((10 + i : Nat) : Int) := (wrap64_id (by omega) (by omega)).trans (by omega)
                          refine OI_static 10 [(0, .int .i64 ((n : Nat) : Int)), (10, .slice (some ⟨b53, o53, none⟩) xs.length cap), (14, .int .i64 ((i : Nat) : Int)), (100, .bool true), (101, .slice (some ⟨b53, o53, none⟩) xs.length cap), (102, .int .i64 ((i : Nat) : Int)), (103, .pointer (some ⟨b53, o53 + i * 1, none⟩)), (104, .int .i64 x54), (105, .int .i64 ((i : Nat) : Int)), (106, .int .i64 (IntKind.i64.wrap (10 + ((i : Nat) : Int))))] (by kernel_rfl) ?_
                          refine OI_eq [(0, .int .i64 ((n : Nat) : Int)), (10, .slice (some ⟨b53, o53, none⟩) xs.length cap), (14, .int .i64 ((i : Nat) : Int)), (100, .bool true), (101, .slice (some ⟨b53, o53, none⟩) xs.length cap), (102, .int .i64 ((i : Nat) : Int)), (103, .pointer (some ⟨b53, o53 + i * 1, none⟩)), (104, .int .i64 x54), (105, .int .i64 ((i : Nat) : Int)), (106, .int .i64 ((10 + i : Nat) : Int))] (by rw [hw56]) ?_
                          refine OI_static 13 [(0, .int .i64 ((n : Nat) : Int)), (10, .slice (some ⟨b53, o53, none⟩) xs.length cap), (14, .int .i64 ((i : Nat) : Int)), (101, .slice (some ⟨b53, o53, none⟩) xs.length cap), (102, .int .i64 ((i : Nat) : Int)), (103, .pointer (some ⟨b53, o53 + i * 1, none⟩)), (104, .int .i64 x54), (105, .int .i64 ((i : Nat) : Int)), (106, .int .i64 ((10 + i : Nat) : Int)), (107, .bool (!(decide (x54 = ((10 + i : Nat) : Int))))), (109, .bool (!(decide (x54 = ((10 + i : Nat) : Int)))))] (by kernel_rfl) ?_
                          by_cases hg57 : x54 = ((10 + i : Nat) : Int)
                          · skip
                            refine OI_eq [(0, .int .i64 ((n : Nat) : Int)), (10, .slice (some ⟨b53, o53, none⟩) xs.length cap), (14, .int .i64 ((i : Nat) : Int)), (101, .slice (some ⟨b53, o53, none⟩) xs.length cap), (102, .int .i64 ((i : Nat) : Int)), (103, .pointer (some ⟨b53, o53 + i * 1, none⟩)), (104, .int .i64 x54), (105, .int .i64 ((i : Nat) : Int)), (106, .int .i64 ((10 + i : Nat) : Int)), (107, .bool (!(decide (x54 = ((10 + i : Nat) : Int))))), (109, .bool false)] (by simp [hg57]) ?_
                            refine OI_static 17 [(0, .int .i64 ((n : Nat) : Int)), (10, .slice (some ⟨b53, o53, none⟩) xs.length cap), (14, .int .i64 ((i : Nat) : Int)), (101, .slice (some ⟨b53, o53, none⟩) xs.length cap), (102, .int .i64 ((i : Nat) : Int)), (103, .pointer (some ⟨b53, o53 + i * 1, none⟩)), (104, .int .i64 x54), (105, .int .i64 ((i : Nat) : Int)), (106, .int .i64 ((10 + i : Nat) : Int)), (107, .bool (!(decide (x54 = ((10 + i : Nat) : Int))))), (109, .bool false), (110, .int .i64 ((i : Nat) : Int)), (111, .int .i64 ((n : Nat) : Int)), (112, .bool (decide (((i : Nat) : Int) ≥ ((n : Nat) : Int)))), (113, .bool (decide (((i : Nat) : Int) ≥ ((n : Nat) : Int))))] (by kernel_rfl) ?_
                            by_cases hg58 : ((i : Nat) : Int) ≥ ((n : Nat) : Int)
                            · skip
                              refine OI_eq [(0, .int .i64 ((n : Nat) : Int)), (10, .slice (some ⟨b53, o53, none⟩) xs.length cap), (14, .int .i64 ((i : Nat) : Int)), (101, .slice (some ⟨b53, o53, none⟩) xs.length cap), (102, .int .i64 ((i : Nat) : Int)), (103, .pointer (some ⟨b53, o53 + i * 1, none⟩)), (104, .int .i64 x54), (105, .int .i64 ((i : Nat) : Int)), (106, .int .i64 ((10 + i : Nat) : Int)), (107, .bool (!(decide (x54 = ((10 + i : Nat) : Int))))), (109, .bool false), (110, .int .i64 ((i : Nat) : Int)), (111, .int .i64 ((n : Nat) : Int)), (112, .bool (decide (((i : Nat) : Int) ≥ ((n : Nat) : Int)))), (113, .bool true)] (by simp [hg58]) ?_
                              refine OI_static 19 [(0, .int .i64 ((n : Nat) : Int)), (10, .slice (some ⟨b53, o53, none⟩) xs.length cap), (14, .int .i64 ((i : Nat) : Int)), (101, .slice (some ⟨b53, o53, none⟩) xs.length cap), (102, .int .i64 ((i : Nat) : Int)), (103, .pointer (some ⟨b53, o53 + i * 1, none⟩)), (104, .int .i64 x54), (105, .int .i64 ((i : Nat) : Int)), (106, .int .i64 ((10 + i : Nat) : Int)), (107, .bool (!(decide (x54 = ((10 + i : Nat) : Int))))), (109, .bool false), (110, .int .i64 ((i : Nat) : Int)), (111, .int .i64 ((n : Nat) : Int)), (112, .bool (decide (((i : Nat) : Int) ≥ ((n : Nat) : Int)))), (113, .bool true), (114, .slice (some ⟨b53, o53, none⟩) xs.length cap), (115, .int .i64 ((i : Nat) : Int))] (by kernel_rfl) ?_
                              refine OI_pure (some 116) (.indexAddr 22 (.tmp 114) (.tmp 115)) (by kernel_rfl) (pure_idxN (b := b53) (o := o53) (len := xs.length) (cap := cap) (kd := .i64) (j := i) (E := 3) (sz := 1) (by_ := 8) (by kernel_rfl) (by kernel_rfl) (by kernel_rfl) (by omega)) ?_
                              refine OI_cell 3 (.tmp 116) (o53 + i * 1) (.int .i64 x54) (some 117) (by kernel_rfl) (by kernel_rfl) hat53.blk (m := 1) (by kernel_rfl) (At.cell0 hat53 (es_at hx55) rfl) ?_
                              have hw59 : IntKind.i64.wrap (((i : Nat) : Int) - ((n : Nat) : Int)) = ((i : Nat) : Int) - ((n : Nat) : Int) := (wrap64_id (by omega) (by omega)).trans (by omega)
                              refine OI_static 24 [(0, .int .i64 ((n : Nat) : Int)), (10, .slice (some ⟨b53, o53, none⟩) xs.length cap), (14, .int .i64 ((i : Nat) : Int)), (101, .slice (some ⟨b53, o53, none⟩) xs.length cap), (102, .int .i64 ((i : Nat) : Int)), (103, .pointer (some ⟨b53, o53 + i * 1, none⟩)), (104, .int .i64 x54), (105, .int .i64 ((i : Nat) : Int)), (106, .int .i64 ((10 + i : Nat) : Int)), (107, .bool (!(decide (x54 = ((10 + i : Nat) : Int))))), (109, .bool false), (110, .int .i64 ((i : Nat) : Int)), (111, .int .i64 ((n : Nat) : Int)), (112, .bool (decide (((i : Nat) : Int) ≥ ((n : Nat) : Int)))), (113, .bool true), (114, .slice (some ⟨b53, o53, none⟩) xs.length cap), (115, .int .i64 ((i : Nat) : Int)), (116, .pointer (some ⟨b53, o53 + i * 1, none⟩)), (117, .int .i64 x54), (118, .int .i64 ((i : Nat) : Int)), (119, .int .i64 ((n : Nat) : Int)), (120, .int .i64 (IntKind.i64.wrap (((i : Nat) : Int) - ((n : Nat) : Int))))] (by kernel_rfl) ?_
                              refine OI_eq [(0, .int .i64 ((n : Nat) : Int)), (10, .slice (some ⟨b53, o53, none⟩) xs.length cap), (14, .int .i64 ((i : Nat) : Int)), (101, .slice (some ⟨b53, o53, none⟩) xs.length cap), (102, .int .i64 ((i : Nat) : Int)), (103, .pointer (some ⟨b53, o53 + i * 1, none⟩)), (104, .int .i64 x54), (105, .int .i64 ((i : Nat) : Int)), (106, .int .i64 ((10 + i : Nat) : Int)), (107, .bool (!(decide (x54 = ((10 + i : Nat) : Int))))), (109, .bool false), (110, .int .i64 ((i : Nat) : Int)), (111, .int .i64 ((n : Nat) : Int)), (112, .bool (decide (((i : Nat) : Int) ≥ ((n : Nat) : Int)))), (113, .bool true), (114, .slice (some ⟨b53, o53, none⟩) xs.length cap), (115, .int .i64 ((i : Nat) : Int)), (116, .pointer (some ⟨b53, o53 + i * 1, none⟩)), (117, .int .i64 x54), (118, .int .i64 ((i : Nat) : Int)), (119, .int .i64 ((n : Nat) : Int)), (120, .int .i64 (((i : Nat) : Int) - ((n : Nat) : Int)))] (by rw [hw59]) ?_
                              refine OI_static 27 [(0, .int .i64 ((n : Nat) : Int)), (10, .slice (some ⟨b53, o53, none⟩) xs.length cap), (14, .int .i64 ((i : Nat) : Int)), (101, .slice (some ⟨b53, o53, none⟩) xs.length cap), (102, .int .i64 ((i : Nat) : Int)), (103, .pointer (some ⟨b53, o53 + i * 1, none⟩)), (104, .int .i64 x54), (105, .int .i64 ((i : Nat) : Int)), (106, .int .i64 ((10 + i : Nat) : Int)), (107, .bool (!(decide (x54 = ((10 + i : Nat) : Int))))), (110, .int .i64 ((i : Nat) : Int)), (111, .int .i64 ((n : Nat) : Int)), (112, .bool (decide (((i : Nat) : Int) ≥ ((n : Nat) : Int)))), (113, .bool true), (114, .slice (some ⟨b53, o53, none⟩) xs.length cap), (115, .int .i64 ((i : Nat) : Int)), (116, .pointer (some ⟨b53, o53 + i * 1, none⟩)), (117, .int .i64 x54), (118, .int .i64 ((i : Nat) : Int)), (119, .int .i64 ((n : Nat) : Int)), (120, .int .i64 (((i : Nat) : Int) - ((n : Nat) : Int))), (121, .bool (!(decide (x54 = ((i : Nat) : Int) - ((n : Nat) : Int))))), (122, .bool (!(decide (x54 = ((i : Nat) : Int) - ((n : Nat) : Int))))), (123, .bool (!(decide (x54 = ((i : Nat) : Int) - ((n : Nat) : Int)))))] (by kernel_rfl) ?_
                              refine OI_end rfl ?_
                              refine X_then ?_
                              refine V_not (x54 = ((i : Nat) : Int) - ((n : Nat) : Int)) (by kernel_rfl) (fun hc60 => ?_) (fun hc60 => ?_)
                              · skip
                                exact (by omega : False).elim
                              · skip
                                refine V_skip ?_
                                refine X_block ?_
                                refine X_then ?_
                                refine V_region ?_
                                have hw61 : IntKind.i64.wrap (((i : Nat) : Int) + 1) = ((i + 1 : Nat) : Int) := (wrap64_id (by omega) (by omega)).trans (by omega)
                                refine OI_static 2 [(0, .int .i64 ((n : Nat) : Int)), (10, .slice (some ⟨b53, o53, none⟩) xs.length cap), (96, .int .i64 (IntKind.i64.wrap (((i : Nat) : Int) + 1))), (101, .slice (some ⟨b53, o53, none⟩) xs.length cap), (102, .int .i64 ((i : Nat) : Int)), (103, .pointer (some ⟨b53, o53 + i * 1, none⟩)), (104, .int .i64 x54), (105, .int .i64 ((i : Nat) : Int)), (106, .int .i64 ((10 + i : Nat) : Int)), (107, .bool (!(decide (x54 = ((10 + i : Nat) : Int))))), (110, .int .i64 ((i : Nat) : Int)), (111, .int .i64 ((n : Nat) : Int)), (112, .bool (decide (((i : Nat) : Int) ≥ ((n : Nat) : Int)))), (113, .bool true), (114, .slice (some ⟨b53, o53, none⟩) xs.length cap), (115, .int .i64 ((i : Nat) : Int)), (116, .pointer (some ⟨b53, o53 + i * 1, none⟩)), (117, .int .i64 x54), (118, .int .i64 ((i : Nat) : Int)), (119, .int .i64 ((n : Nat) : Int)), (120, .int .i64 (((i : Nat) : Int) - ((n : Nat) : Int))), (121, .bool (!(decide (x54 = ((i : Nat) : Int) - ((n : Nat) : Int))))), (122, .bool (!(decide (x54 = ((i : Nat) : Int) - ((n : Nat) : Int)))))] (by kernel_rfl) ?_
                                refine OI_eq [(0, .int .i64 ((n : Nat) : Int)), (10, .slice (some ⟨b53, o53, none⟩) xs.length cap), (96, .int .i64 ((i + 1 : Nat) : Int)), (101, .slice (some ⟨b53, o53, none⟩) xs.length cap), (102, .int .i64 ((i : Nat) : Int)), (103, .pointer (some ⟨b53, o53 + i * 1, none⟩)), (104, .int .i64 x54), (105, .int .i64 ((i : Nat) : Int)), (106, .int .i64 ((10 + i : Nat) : Int)), (107, .bool (!(decide (x54 = ((10 + i : Nat) : Int))))), (110, .int .i64 ((i : Nat) : Int)), (111, .int .i64 ((n : Nat) : Int)), (112, .bool (decide (((i : Nat) : Int) ≥ ((n : Nat) : Int)))), (113, .bool true), (114, .slice (some ⟨b53, o53, none⟩) xs.length cap), (115, .int .i64 ((i : Nat) : Int)), (116, .pointer (some ⟨b53, o53 + i * 1, none⟩)), (117, .int .i64 x54), (118, .int .i64 ((i : Nat) : Int)), (119, .int .i64 ((n : Nat) : Int)), (120, .int .i64 (((i : Nat) : Int) - ((n : Nat) : Int))), (121, .bool (!(decide (x54 = ((i : Nat) : Int) - ((n : Nat) : Int))))), (122, .bool (!(decide (x54 = ((i : Nat) : Int) - ((n : Nat) : Int)))))] (by rw [hw61]) ?_
                                refine OI_static 3 [(0, .int .i64 ((n : Nat) : Int)), (10, .slice (some ⟨b53, o53, none⟩) xs.length cap), (14, .int .i64 ((i + 1 : Nat) : Int)), (101, .slice (some ⟨b53, o53, none⟩) xs.length cap), (102, .int .i64 ((i : Nat) : Int)), (103, .pointer (some ⟨b53, o53 + i * 1, none⟩)), (104, .int .i64 x54), (105, .int .i64 ((i : Nat) : Int)), (106, .int .i64 ((10 + i : Nat) : Int)), (107, .bool (!(decide (x54 = ((10 + i : Nat) : Int))))), (110, .int .i64 ((i : Nat) : Int)), (111, .int .i64 ((n : Nat) : Int)), (112, .bool (decide (((i : Nat) : Int) ≥ ((n : Nat) : Int)))), (113, .bool true), (114, .slice (some ⟨b53, o53, none⟩) xs.length cap), (115, .int .i64 ((i : Nat) : Int)), (116, .pointer (some ⟨b53, o53 + i * 1, none⟩)), (117, .int .i64 x54), (118, .int .i64 ((i : Nat) : Int)), (119, .int .i64 ((n : Nat) : Int)), (120, .int .i64 (((i : Nat) : Int) - ((n : Nat) : Int))), (121, .bool (!(decide (x54 = ((i : Nat) : Int) - ((n : Nat) : Int))))), (122, .bool (!(decide (x54 = ((i : Nat) : Int) - ((n : Nat) : Int)))))] (by kernel_rfl) ?_
                                refine OI_end rfl ?_
                                exact V_again (k50 - 1) (by omega) [(0, .int .i64 ((n : Nat) : Int)), (10, .slice (some ⟨b53, o53, none⟩) xs.length cap), (14, .int .i64 ((i + 1 : Nat) : Int))] rfl ⟨i + 1, by omega, rfl, rfl⟩
                            · skip
                              refine OI_eq [(0, .int .i64 ((n : Nat) : Int)), (10, .slice (some ⟨b53, o53, none⟩) xs.length cap), (14, .int .i64 ((i : Nat) : Int)), (101, .slice (some ⟨b53, o53, none⟩) xs.length cap), (102, .int .i64 ((i : Nat) : Int)), (103, .pointer (some ⟨b53, o53 + i * 1, none⟩)), (104, .int .i64 x54), (105, .int .i64 ((i : Nat) : Int)), (106, .int .i64 ((10 + i : Nat) : Int)), (107, .bool (!(decide (x54 = ((10 + i : Nat) : Int))))), (109, .bool false), (110, .int .i64 ((i : Nat) : Int)), (111, .int .i64 ((n : Nat) : Int)), (112, .bool (decide (((i : Nat) : Int) ≥ ((n : Nat) : Int)))), (113, .bool false)] (by simp [hg58]) ?_
                              refine OI_static 27 [(0, .int .i64 ((n : Nat) : Int)), (10, .slice (some ⟨b53, o53, none⟩) xs.length cap), (14, .int .i64 ((i : Nat) : Int)), (101, .slice (some ⟨b53, o53, none⟩) xs.length cap), (102, .int .i64 ((i : Nat) : Int)), (103, .pointer (some ⟨b53, o53 + i * 1, none⟩)), (104, .int .i64 x54), (105, .int .i64 ((i : Nat) : Int)), (106, .int .i64 ((10 + i : Nat) : Int)), (107, .bool (!(decide (x54 = ((10 + i : Nat) : Int))))), (110, .int .i64 ((i : Nat) : Int)), (111, .int .i64 ((n : Nat) : Int)), (112, .bool (decide (((i : Nat) : Int) ≥ ((n : Nat) : Int)))), (113, .bool false), (114, undef), (115, undef), (116, undef), (117, undef), (118, undef), (119, undef), (120, undef), (121, undef), (122, .bool false), (123, .bool false)] (by kernel_rfl) ?_
                              refine OI_end rfl ?_
                              refine X_then ?_
                              refine V_false rfl ?_
                              refine V_skip ?_
                              refine X_block ?_
                              refine X_then ?_
                              refine V_region ?_
                              have hw62 : IntKind.i64.wrap (((i : Nat) : Int) + 1) = ((i + 1 : Nat) : Int) := (wrap64_id (by omega) (by omega)).trans (by omega)
                              refine OI_static 2 [(0, .int .i64 ((n : Nat) : Int)), (10, .slice (some ⟨b53, o53, none⟩) xs.length cap), (96, .int .i64 (IntKind.i64.wrap (((i : Nat) : Int) + 1))), (101, .slice (some ⟨b53, o53, none⟩) xs.length cap), (102, .int .i64 ((i : Nat) : Int)), (103, .pointer (some ⟨b53, o53 + i * 1, none⟩)), (104, .int .i64 x54), (105, .int .i64 ((i : Nat) : Int)), (106, .int .i64 ((10 + i : Nat) : Int)), (107, .bool (!(decide (x54 = ((10 + i : Nat) : Int))))), (110, .int .i64 ((i : Nat) : Int)), (111, .int .i64 ((n : Nat) : Int)), (112, .bool (decide (((i : Nat) : Int) ≥ ((n : Nat) : Int)))), (113, .bool false), (114, undef), (115, undef), (116, undef), (117, undef), (118, undef), (119, undef), (120, undef), (121, undef), (122, .bool false)] (by kernel_rfl) ?_
                              refine OI_eq [(0, .int .i64 ((n : Nat) : Int)), (10, .slice (some ⟨b53, o53, none⟩) xs.length cap), (96, .int .i64 ((i + 1 : Nat) : Int)), (101, .slice (some ⟨b53, o53, none⟩) xs.length cap), (102, .int .i64 ((i : Nat) : Int)), (103, .pointer (some ⟨b53, o53 + i * 1, none⟩)), (104, .int .i64 x54), (105, .int .i64 ((i : Nat) : Int)), (106, .int .i64 ((10 + i : Nat) : Int)), (107, .bool (!(decide (x54 = ((10 + i : Nat) : Int))))), (110, .int .i64 ((i : Nat) : Int)), (111, .int .i64 ((n : Nat) : Int)), (112, .bool (decide (((i : Nat) : Int) ≥ ((n : Nat) : Int)))), (113, .bool false), (114, undef), (115, undef), (116, undef), (117, undef), (118, undef), (119, undef), (120, undef), (121, undef), (122, .bool false)] (by rw [hw62]) ?_
                              refine OI_static 3 [(0, .int .i64 ((n : Nat) : Int)), (10, .slice (some ⟨b53, o53, none⟩) xs.length cap), (14, .int .i64 ((i + 1 : Nat) : Int)), (101, .slice (some ⟨b53, o53, none⟩) xs.length cap), (102, .int .i64 ((i : Nat) : Int)), (103, .pointer (some ⟨b53, o53 + i * 1, none⟩)), (104, .int .i64 x54), (105, .int .i64 ((i : Nat) : Int)), (106, .int .i64 ((10 + i : Nat) : Int)), (107, .bool (!(decide (x54 = ((10 + i : Nat) : Int))))), (110, .int .i64 ((i : Nat) : Int)), (111, .int .i64 ((n : Nat) : Int)), (112, .bool (decide (((i : Nat) : Int) ≥ ((n : Nat) : Int)))), (113, .bool false), (114, undef), (115, undef), (116, undef), (117, undef), (118, undef), (119, undef), (120, undef), (121, undef), (122, .bool false)] (by kernel_rfl) ?_
                              refine OI_end rfl ?_
                              exact V_again (k50 - 1) (by omega) [(0, .int .i64 ((n : Nat) : Int)), (10, .slice (some ⟨b53, o53, none⟩) xs.length cap), (14, .int .i64 ((i + 1 : Nat) : Int))] rfl ⟨i + 1, by omega, rfl, rfl⟩
                          · skip
                            exact (by omega : False).elim
                        · skip
                          refine OI_eq [(0, .int .i64 ((n : Nat) : Int)), (10, .slice A xs.length cap), (14, .int .i64 ((i : Nat) : Int)), (100, .bool false)] (by simp [hg52]) ?_
                          refine OI_static 17 [(0, .int .i64 ((n : Nat) : Int)), (10, .slice A xs.length cap), (14, .int .i64 ((i : Nat) : Int)), (101, undef), (102, undef), (103, undef), (104, undef), (105, undef), (106, undef), (107, undef), (109, .bool false), (110, .int .i64 ((i : Nat) : Int)), (111, .int .i64 ((n : Nat) : Int)), (112, .bool (decide (((i : Nat) : Int) ≥ ((n : Nat) : Int)))), (113, .bool (decide (((i : Nat) : Int) ≥ ((n : Nat) : Int))))] (by kernel_rfl) ?_
                          by_cases hg63 : ((i : Nat) : Int) ≥ ((n : Nat) : Int)
                          · skip
                            refine OI_eq [(0, .int .i64 ((n : Nat) : Int)), (10, .slice A xs.length cap), (14, .int .i64 ((i : Nat) : Int)), (101, undef), (102, undef), (103, undef), (104, undef), (105, undef), (106, undef), (107, undef), (109, .bool false), (110, .int .i64 ((i : Nat) : Int)), (111, .int .i64 ((n : Nat) : Int)), (112, .bool (decide (((i : Nat) : Int) ≥ ((n : Nat) : Int)))), (113, .bool true)] (by simp [hg63]) ?_
                            refine OI_static 19 [(0, .int .i64 ((n : Nat) : Int)), (10, .slice A xs.length cap), (14, .int .i64 ((i : Nat) : Int)), (101, undef), (102, undef), (103, undef), (104, undef), (105, undef), (106, undef), (107, undef), (109, .bool false), (110, .int .i64 ((i : Nat) : Int)), (111, .int .i64 ((n : Nat) : Int)), (112, .bool (decide (((i : Nat) : Int) ≥ ((n : Nat) : Int)))), (113, .bool true), (114, .slice A xs.length cap), (115, .int .i64 ((i : Nat) : Int))] (by kernel_rfl) ?_
                            obtain ⟨b64, o64, L64, T64, rfl, hat64⟩ := SlT.open_ hgot (by first | omega | simp | (simp; omega))
                            have hb64lt := hat64.blk.lt
                            refine OI_pure (some 116) (.indexAddr 22 (.tmp 114) (.tmp 115)) (by kernel_rfl) (pure_idxN (b := b64) (o := o64) (len := xs.length) (cap := cap) (kd := .i64) (j := i) (E := 3) (sz := 1) (by_ := 8) (by kernel_rfl) (by kernel_rfl) (by kernel_rfl) (by omega)) ?_
                            obtain ⟨x65, hx66⟩ : ∃ x, xs[i]? = some x := ⟨_, List.getElem?_eq_getElem (by omega)⟩
                            have hvx65 : x65 = (if i < n then (10 + i : Int) else (i : Int) - n) := by rw [hall, nm12, List.getElem?_map] at hx66; obtain ⟨y, hy, rfl⟩ := Option.map_eq_some_iff.1 hx66; exact (all12_at hy).2.2
                            have hvx652 : (i < n → x65 = 10 + i) ∧ (¬ i < n → x65 = (i : Int) - n) := by constructor <;> intro hh <;> simp [hvx65, hh]
                            refine OI_cell 3 (.tmp 116) (o64 + i * 1) (.int .i64 x65) (some 117) (by kernel_rfl) (by kernel_rfl) hat64.blk (m := 1) (by kernel_rfl) (At.cell0 hat64 (es_at hx66) rfl) ?_
                            have hw67 : IntKind.i64.wrap (((i : Nat) : Int) - ((n : Nat) : Int)) = ((i : Nat) : Int) - ((n : Nat) : Int) := (wrap64_id (by omega) (by omega)).trans (by omega)
                            refine OI_static 24 [(0, .int .i64 ((n : Nat) : Int)), (10, .slice (some ⟨b64, o64, none⟩) xs.length cap), (14, .int .i64 ((i : Nat) : Int)), (101, undef), (102, undef), (103, undef), (104, undef), (105, undef), (106, undef), (107, undef), (109, .bool false), (110, .int .i64 ((i : Nat) : Int)), (111, .int .i64 ((n : Nat) : Int)), (112, .bool (decide (((i : Nat) : Int) ≥ ((n : Nat) : Int)))), (113, .bool true), (114, .slice (some ⟨b64, o64, none⟩) xs.length cap), (115, .int .i64 ((i : Nat) : Int)), (116, .pointer (some ⟨b64, o64 + i * 1, none⟩)), (117, .int .i64 x65), (118, .int .i64 ((i : Nat) : Int)), (119, .int .i64 ((n : Nat) : Int)), (120, .int .i64 (IntKind.i64.wrap (((i : Nat) : Int) - ((n : Nat) : Int))))] (by kernel_rfl) ?_
                            refine OI_eq [(0, .int .i64 ((n : Nat) : Int)), (10, .slice (some ⟨b64, o64, none⟩) xs.length cap), (14, .int .i64 ((i : Nat) : Int)), (101, undef), (102, undef), (103, undef), (104, undef), (105, undef), (106, undef), (107, undef), (109, .bool false), (110, .int .i64 ((i : Nat) : Int)), (111, .int .i64 ((n : Nat) : Int)), (112, .bool (decide (((i : Nat) : Int) ≥ ((n : Nat) : Int)))), (113, .bool true), (114, .slice (some ⟨b64, o64, none⟩) xs.length cap), (115, .int .i64 ((i : Nat) : Int)), (116, .pointer (some ⟨b64, o64 + i * 1, none⟩)), (117, .int .i64 x65), (118, .int .i64 ((i : Nat) : Int)), (119, .int .i64 ((n : Nat) : Int)), (120, .int .i64 (((i : Nat) : Int) - ((n : Nat) : Int)))] (by rw [hw67]) ?_
                            refine OI_static 27 [(0, .int .i64 ((n : Nat) : Int)), (10, .slice (some ⟨b64, o64, none⟩) xs.length cap), (14, .int .i64 ((i : Nat) : Int)), (101, undef), (102, undef), (103, undef), (104, undef), (105, undef), (106, undef), (107, undef), (110, .int .i64 ((i : Nat) : Int)), (111, .int .i64 ((n : Nat) : Int)), (112, .bool (decide (((i : Nat) : Int) ≥ ((n : Nat) : Int)))), (113, .bool true), (114, .slice (some ⟨b64, o64, none⟩) xs.length cap), (115, .int .i64 ((i : Nat) : Int)), (116, .pointer (some ⟨b64, o64 + i * 1, none⟩)), (117, .int .i64 x65), (118, .int .i64 ((i : Nat) : Int)), (119, .int .i64 ((n : Nat) : Int)), (120, .int .i64 (((i : Nat) : Int) - ((n : Nat) : Int))), (121, .bool (!(decide (x65 = ((i : Nat) : Int) - ((n : Nat) : Int))))), (122, .bool (!(decide (x65 = ((i : Nat) : Int) - ((n : Nat) : Int))))), (123, .bool (!(decide (x65 = ((i : Nat) : Int) - ((n : Nat) : Int)))))] (by kernel_rfl) ?_
                            refine OI_end rfl ?_
                            refine X_then ?_
                            refine V_not (x65 = ((i : Nat) : Int) - ((n : Nat) : Int)) (by kernel_rfl) (fun hc68 => ?_) (fun hc68 => ?_)
                            · skip
                              exact (by omega : False).elim
                            · skip
                              refine V_skip ?_
                              refine X_block ?_
                              refine X_then ?_
                              refine V_region ?_
                              have hw69 : IntKind.i64.wrap (((i : Nat) : Int) + 1) = ((i + 1 : Nat) : Int) := (wrap64_id (by omega) (by omega)).trans (by omega)
                              refine OI_static 2 [(0, .int .i64 ((n : Nat) : Int)), (10, .slice (some ⟨b64, o64, none⟩) xs.length cap), (96, .int .i64 (IntKind.i64.wrap (((i : Nat) : Int) + 1))), (101, undef), (102, undef), (103, undef), (104, undef), (105, undef), (106, undef), (107, undef), (110, .int .i64 ((i : Nat) : Int)), (111, .int .i64 ((n : Nat) : Int)), (112, .bool (decide (((i : Nat) : Int) ≥ ((n : Nat) : Int)))), (113, .bool true), (114, .slice (some ⟨b64, o64, none⟩) xs.length cap), (115, .int .i64 ((i : Nat) : Int)), (116, .pointer (some ⟨b64, o64 + i * 1, none⟩)), (117, .int .i64 x65), (118, .int .i64 ((i : Nat) : Int)), (119, .int .i64 ((n : Nat) : Int)), (120, .int .i64 (((i : Nat) : Int) - ((n : Nat) : Int))), (121, .bool (!(decide (x65 = ((i : Nat) : Int) - ((n : Nat) : Int))))), (122, .bool (!(decide (x65 = ((i : Nat) : Int) - ((n : Nat) : Int)))))] (by kernel_rfl) ?_
                              refine OI_eq [(0, .int .i64 ((n : Nat) : Int)), (10, .slice (some ⟨b64, o64, none⟩) xs.length cap), (96, .int .i64 ((i + 1 : Nat) : Int)), (101, undef), (102, undef), (103, undef), (104, undef), (105, undef), (106, undef), (107, undef), (110, .int .i64 ((i : Nat) : Int)), (111, .int .i64 ((n : Nat) : Int)), (112, .bool (decide (((i : Nat) : Int) ≥ ((n : Nat) : Int)))), (113, .bool true), (114, .slice (some ⟨b64, o64, none⟩) xs.length cap), (115, .int .i64 ((i : Nat) : Int)), (116, .pointer (some ⟨b64, o64 + i * 1, none⟩)), (117, .int .i64 x65), (118, .int .i64 ((i : Nat) : Int)), (119, .int .i64 ((n : Nat) : Int)), (120, .int .i64 (((i : Nat) : Int) - ((n : Nat) : Int))), (121, .bool (!(decide (x65 = ((i : Nat) : Int) - ((n : Nat) : Int))))), (122, .bool (!(decide (x65 = ((i : Nat) : Int) - ((n : Nat) : Int)))))] (by rw [hw69]) ?_
                              refine OI_static 3 [(0, .int .i64 ((n : Nat) : Int)), (10, .slice (some ⟨b64, o64, none⟩) xs.length cap), (14, .int .i64 ((i + 1 : Nat) : Int)), (101, undef), (102, undef), (103, undef), (104, undef), (105, undef), (106, undef), (107, undef), (110, .int .i64 ((i : Nat) : Int)), (111, .int .i64 ((n : Nat) : Int)), (112, .bool (decide (((i : Nat) : Int) ≥ ((n : Nat) : Int)))), (113, .bool true), (114, .slice (some ⟨b64, o64, none⟩) xs.length cap), (115, .int .i64 ((i : Nat) : Int)), (116, .pointer (some ⟨b64, o64 + i * 1, none⟩)), (117, .int .i64 x65), (118, .int .i64 ((i : Nat) : Int)), (119, .int .i64 ((n : Nat) : Int)), (120, .int .i64 (((i : Nat) : Int) - ((n : Nat) : Int))), (121, .bool (!(decide (x65 = ((i : Nat) : Int) - ((n : Nat) : Int))))), (122, .bool (!(decide (x65 = ((i : Nat) : Int) - ((n : Nat) : Int)))))] (by kernel_rfl) ?_
                              refine OI_end rfl ?_
                              exact V_again (k50 - 1) (by omega) [(0, .int .i64 ((n : Nat) : Int)), (10, .slice (some ⟨b64, o64, none⟩) xs.length cap), (14, .int .i64 ((i + 1 : Nat) : Int))] rfl ⟨i + 1, by omega, rfl, rfl⟩
                          · skip
                            refine OI_eq [(0, .int .i64 ((n : Nat) : Int)), (10, .slice A xs.length cap), (14, .int .i64 ((i : Nat) : Int)), (101, undef), (102, undef), (103, undef), (104, undef), (105, undef), (106, undef), (107, undef), (109, .bool false), (110, .int .i64 ((i : Nat) : Int)), (111, .int .i64 ((n : Nat) : Int)), (112, .bool (decide (((i : Nat) : Int) ≥ ((n : Nat) : Int)))), (113, .bool false)] (by simp [hg63]) ?_
                            refine OI_static 27 [(0, .int .i64 ((n : Nat) : Int)), (10, .slice A xs.length cap), (14, .int .i64 ((i : Nat) : Int)), (101, undef), (102, undef), (103, undef), (104, undef), (105, undef), (106, undef), (107, undef), (110, .int .i64 ((i : Nat) : Int)), (111, .int .i64 ((n : Nat) : Int)), (112, .bool (decide (((i : Nat) : Int) ≥ ((n : Nat) : Int)))), (113, .bool false), (114, undef), (115, undef), (116, undef), (117, undef), (118, undef), (119, undef), (120, undef), (121, undef), (122, .bool false), (123, .bool false)] (by kernel_rfl) ?_
                            refine OI_end rfl ?_
                            refine X_then ?_
                            refine V_false rfl ?_
                            refine V_skip ?_
                            refine X_block ?_
                            refine X_then ?_
                            refine V_region ?_
                            have hw70 : IntKind.i64.wrap (((i : Nat) : Int) + 1) = ((i + 1 : Nat) : Int) := (wrap64_id (by omega) (by omega)).trans (by omega)
                            refine OI_static 2 [(0, .int .i64 ((n : Nat) : Int)), (10, .slice A xs.length cap), (96, .int .i64 (IntKind.i64.wrap (((i : Nat) : Int) + 1))), (101, undef), (102, undef), (103, undef), (104, undef), (105, undef), (106, undef), (107, undef), (110, .int .i64 ((i : Nat) : Int)), (111, .int .i64 ((n : Nat) : Int)), (112, .bool (decide (((i : Nat) : Int) ≥ ((n : Nat) : Int)))), (113, .bool false), (114, undef), (115, undef), (116, undef), (117, undef), (118, undef), (119, undef), (120, undef), (121, undef), (122, .bool false)] (by kernel_rfl) ?_
                            refine OI_eq [(0, .int .i64 ((n : Nat) : Int)), (10, .slice A xs.length cap), (96, .int .i64 ((i + 1 : Nat) : Int)), (101, undef), (102, undef), (103, undef), (104, undef), (105, undef), (106, undef), (107, undef), (110, .int .i64 ((i : Nat) : Int)), (111, .int .i64 ((n : Nat) : Int)), (112, .bool (decide (((i : Nat) : Int) ≥ ((n : Nat) : Int)))), (113, .bool false), (114, undef), (115, undef), (116, undef), (117, undef), (118, undef), (119, undef), (120, undef), (121, undef), (122, .bool false)] (by rw [hw70]) ?_
                            refine OI_static 3 [(0, .int .i64 ((n : Nat) : Int)), (10, .slice A xs.length cap), (14, .int .i64 ((i + 1 : Nat) : Int)), (101, undef), (102, undef), (103, undef), (104, undef), (105, undef), (106, undef), (107, undef), (110, .int .i64 ((i : Nat) : Int)), (111, .int .i64 ((n : Nat) : Int)), (112, .bool (decide (((i : Nat) : Int) ≥ ((n : Nat) : Int)))), (113, .bool false), (114, undef), (115, undef), (116, undef), (117, undef), (118, undef), (119, undef), (120, undef), (121, undef), (122, .bool false)] (by kernel_rfl) ?_
                            refine OI_end rfl ?_
                            exact V_again (k50 - 1) (by omega) [(0, .int .i64 ((n : Nat) : Int)), (10, .slice A xs.length cap), (14, .int .i64 ((i + 1 : Nat) : Int))] rfl ⟨i + 1, by omega, rfl, rfl⟩
                      · skip
                        refine V_exit ?_
                        refine X_exit_then ?_
                        refine X_exit_then ?_
                        refine X_exit_here ?_
                        refine X_then ?_
                        refine V_seq ?_
                        refine V_region ?_
                        refine OI_call { callee := (Callee.value (Operand.func 15)), args := #[], argTypes := #[] } 15 #[] (some 124) (by kernel_rfl) (by kernel_rfl) (by kernel_rfl) (known_spec _) ?_
                        rintro _ w71 ⟨rfl, hk72⟩
                        refine ⟨_, rfl, ?_⟩
                        replace hgot := SlT.keep0 hgot hk72
                        replace hK0 := Keep.tr hK0 (Keep.ofNone hk72); have hzhK0 := Keep.size hK0
                        replace hk13 := Keep.tr hk13 (Keep.ofNone hk72); have hzhk13 := Keep.size hk13
                        replace hk21 := Keep.tr hk21 (Keep.ofNone hk72); have hzhk21 := Keep.size hk21
                        replace hk30 := Keep.tr hk30 (Keep.ofNone hk72); have hzhk30 := Keep.size hk30
                        replace hag2 := Ag.keep0 hag2 hk72
                        refine OI_static 2 [(6, .bool true)] (by kernel_rfl) ?_
                        refine OI_end rfl ?_
                        refine X_then ?_
                        refine V_ret ?_
                        exact X_return (.bool true) rfl ⟨rfl, hK0⟩

theorem walk_AgendaCarries_neg (a b c : Int) (h : a < 0 ∨ b < 0) (w : World) : Calls Try.prog 5 #[.int .i64 a, .int .i64 b, .int .i64 c] w fun e w' => e = .returned (.bool true) ∧ Keep none_ w w' := by
  have hK0 : Keep none_ w w := Keep.refl _ _
  have hzhK0 := Keep.size hK0
  refine enterV Try.func5 rfl [.int .i64 a, .int .i64 b, .int .i64 c] 125 rfl rfl rfl ?_
  refine V_pick [(0, .int .i64 a), (1, .int .i64 b), (2, .int .i64 c)] rfl ?_
  refine V_seq ?_
  refine V_region ?_
  refine OI_static 1 [(0, .int .i64 a), (1, .int .i64 b), (2, .int .i64 c)] (by kernel_rfl) ?_
  refine OI_end rfl ?_
  refine X_then ?_
  refine V_seq ?_
  refine V_seq ?_
  refine V_region ?_
  refine OI_static 3 [(0, .int .i64 a), (1, .int .i64 b), (2, .int .i64 c), (17, .bool (decide (a < 1)))] (by kernel_rfl) ?_
  by_cases hg1 : a < 1
  · skip
    refine OI_eq [(0, .int .i64 a), (1, .int .i64 b), (2, .int .i64 c), (17, .bool true)] (by simp [hg1]) ?_
    refine OI_static 22 [(0, .int .i64 a), (1, .int .i64 b), (2, .int .i64 c), (36, .bool true)] (by kernel_rfl) ?_
    refine OI_end rfl ?_
    refine X_then ?_
    refine V_true rfl ?_
    refine V_seq ?_
    refine V_region ?_
    refine OI_static 1 [(6, .bool true)] (by kernel_rfl) ?_
    refine OI_end rfl ?_
    refine X_then ?_
    refine V_ret ?_
    refine X_ret_then ?_
    exact X_return (.bool true) rfl ⟨rfl, hK0⟩
  · skip
    refine OI_eq [(0, .int .i64 a), (1, .int .i64 b), (2, .int .i64 c), (17, .bool false)] (by simp [hg1]) ?_
    refine OI_static 7 [(0, .int .i64 a), (1, .int .i64 b), (2, .int .i64 c), (21, .bool (decide (a > 6)))] (by kernel_rfl) ?_
    by_cases hg2 : a > 6
    · skip
      refine OI_eq [(0, .int .i64 a), (1, .int .i64 b), (2, .int .i64 c), (21, .bool true)] (by simp [hg2]) ?_
      refine OI_static 22 [(0, .int .i64 a), (1, .int .i64 b), (2, .int .i64 c), (36, .bool true)] (by kernel_rfl) ?_
      refine OI_end rfl ?_
      refine X_then ?_
      refine V_true rfl ?_
      refine V_seq ?_
      refine V_region ?_
      refine OI_static 1 [(6, .bool true)] (by kernel_rfl) ?_
      refine OI_end rfl ?_
      refine X_then ?_
      refine V_ret ?_
      refine X_ret_then ?_
      exact X_return (.bool true) rfl ⟨rfl, hK0⟩
    · skip
      refine OI_eq [(0, .int .i64 a), (1, .int .i64 b), (2, .int .i64 c), (21, .bool false)] (by simp [hg2]) ?_
      refine OI_static 11 [(0, .int .i64 a), (1, .int .i64 b), (2, .int .i64 c), (25, .bool (decide (b < 0)))] (by kernel_rfl) ?_
      by_cases hg3 : b < 0
      · skip
        refine OI_eq [(0, .int .i64 a), (1, .int .i64 b), (2, .int .i64 c), (25, .bool true)] (by simp [hg3]) ?_
        refine OI_static 22 [(0, .int .i64 a), (1, .int .i64 b), (2, .int .i64 c), (36, .bool true)] (by kernel_rfl) ?_
        refine OI_end rfl ?_
        refine X_then ?_
        refine V_true rfl ?_
        refine V_seq ?_
        refine V_region ?_
        refine OI_static 1 [(6, .bool true)] (by kernel_rfl) ?_
        refine OI_end rfl ?_
        refine X_then ?_
        refine V_ret ?_
        refine X_ret_then ?_
        exact X_return (.bool true) rfl ⟨rfl, hK0⟩
      · skip
        refine OI_eq [(0, .int .i64 a), (1, .int .i64 b), (2, .int .i64 c), (25, .bool false)] (by simp [hg3]) ?_
        refine OI_static 15 [(0, .int .i64 a), (1, .int .i64 b), (2, .int .i64 c), (29, .bool (decide (b > 6)))] (by kernel_rfl) ?_
        by_cases hg4 : b > 6
        · skip
          refine OI_eq [(0, .int .i64 a), (1, .int .i64 b), (2, .int .i64 c), (29, .bool true)] (by simp [hg4]) ?_
          refine OI_static 22 [(0, .int .i64 a), (1, .int .i64 b), (2, .int .i64 c), (36, .bool true)] (by kernel_rfl) ?_
          refine OI_end rfl ?_
          refine X_then ?_
          refine V_true rfl ?_
          refine V_seq ?_
          refine V_region ?_
          refine OI_static 1 [(6, .bool true)] (by kernel_rfl) ?_
          refine OI_end rfl ?_
          refine X_then ?_
          refine V_ret ?_
          refine X_ret_then ?_
          exact X_return (.bool true) rfl ⟨rfl, hK0⟩
        · skip
          refine OI_eq [(0, .int .i64 a), (1, .int .i64 b), (2, .int .i64 c), (29, .bool false)] (by simp [hg4]) ?_
          refine OI_static 19 [(0, .int .i64 a), (1, .int .i64 b), (2, .int .i64 c), (33, .bool (decide (c < 1)))] (by kernel_rfl) ?_
          by_cases hg5 : c < 1
          · skip
            refine OI_eq [(0, .int .i64 a), (1, .int .i64 b), (2, .int .i64 c), (33, .bool true)] (by simp [hg5]) ?_
            refine OI_static 22 [(0, .int .i64 a), (1, .int .i64 b), (2, .int .i64 c), (36, .bool true)] (by kernel_rfl) ?_
            refine OI_end rfl ?_
            refine X_then ?_
            refine V_true rfl ?_
            refine V_seq ?_
            refine V_region ?_
            refine OI_static 1 [(6, .bool true)] (by kernel_rfl) ?_
            refine OI_end rfl ?_
            refine X_then ?_
            refine V_ret ?_
            refine X_ret_then ?_
            exact X_return (.bool true) rfl ⟨rfl, hK0⟩
          · skip
            refine OI_eq [(0, .int .i64 a), (1, .int .i64 b), (2, .int .i64 c), (33, .bool false)] (by simp [hg5]) ?_
            refine OI_static 22 [(0, .int .i64 a), (1, .int .i64 b), (2, .int .i64 c), (36, .bool (decide (c > 6)))] (by kernel_rfl) ?_
            refine OI_end rfl ?_
            refine X_then ?_
            refine V_if (c > 6) (by kernel_rfl) (fun hc6 => ?_) (fun hc6 => ?_)
            · skip
              refine V_seq ?_
              refine V_region ?_
              refine OI_static 1 [(6, .bool true)] (by kernel_rfl) ?_
              refine OI_end rfl ?_
              refine X_then ?_
              refine V_ret ?_
              refine X_ret_then ?_
              exact X_return (.bool true) rfl ⟨rfl, hK0⟩
            · skip
              exact (by omega : False).elim

theorem said_AgendaCarries (a b c : Int) (w : World) : Calls Try.prog 5 #[.int .i64 a, .int .i64 b, .int .i64 c] w fun e w' => e = .returned (.bool true) ∧ Keep none_ w w' := by
  by_cases h : a < 0 ∨ b < 0
  · exact walk_AgendaCarries_neg a b c h w
  · obtain ⟨n, rfl⟩ : ∃ x : Nat, a = x := ⟨a.toNat, by omega⟩
    obtain ⟨later, rfl⟩ : ∃ x : Nat, b = x := ⟨b.toNat, by omega⟩
    exact walk_AgendaCarries n later c w
end Go.Al
