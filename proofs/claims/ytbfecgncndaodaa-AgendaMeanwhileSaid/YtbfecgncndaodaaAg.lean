/-
  Walks of package agenda.
-/
import Derived.Test.YtbfecgncndaodaaCmp
namespace Go.Al
open Go Go.RowKit Go.Proofs
/-- A task: what it is told apart by, and its other cells. -/
structure Tk where
  name : Int
  at_ : Int
  pr : Int
  rest : List Value
  hr : rest.length = 33
  h1 : ∀ u ∈ rest, u.oneCell' = true
def Tk.cells (t : Tk) : List Value := .int .i64 t.name :: .int .i64 t.at_ :: .int .i64 t.pr :: t.rest
theorem Tk.len (t : Tk) : t.cells.length = 36 := by simp [Tk.cells, t.hr]
theorem Tk.one (t : Tk) : ∀ u ∈ t.cells, u.oneCell' = true := by
  intro u hu
  simp only [Tk.cells, List.mem_cons] at hu
  rcases hu with rfl | rfl | rfl | hu
  · rfl
  · rfl
  · rfl
  · exact t.h1 u hu
def Tk.val (t : Tk) : Value := .agg t.cells.toArray
def ordI (a b : Tk) : Int := orI [cmpI a.at_ b.at_, cmpI a.pr b.pr, cmpI a.name b.name]

theorem order_spec (a b : Tk) (w : World) : Calls Try.prog 25 #[.agg a.cells.toArray, .agg b.cells.toArray] w fun e w' => e = .returned (.int .i64 (ordI a b)) ∧ Keep none_ w w' := by
  have hK0 : Keep none_ w w := Keep.refl _ _
  have hzhK0 := Keep.size hK0
  refine enterV Try.func25 rfl [.agg (Tk.cells a).toArray, .agg (Tk.cells b).toArray] 22 rfl rfl rfl ?_
  refine V_pick [(0, .agg (Tk.cells a).toArray), (1, .agg (Tk.cells b).toArray)] rfl ?_
  refine V_seq ?_
  refine V_region ?_
  refine OI_box 28 (.tmp 0) (.agg (Tk.cells a).toArray) (Tk.cells a) (some 2) (by kernel_rfl) (by kernel_rfl) rfl ?_
  intro b1 w1 e1 hb1 k1 z1
  replace hK0 := Keep.tr hK0 (Keep.ofNone k1); have hzhK0 := Keep.size hK0
  have hb1lt := hb1.lt
  refine OI_box 28 (.tmp 1) (.agg (Tk.cells b).toArray) (Tk.cells b) (some 3) (by kernel_rfl) (by kernel_rfl) rfl ?_
  intro b2 w2 e2 hb2 k2 z2
  replace hb1 := hb1.keep k2 (fun f => f)
  have hb1lt := hb1.lt
  replace hK0 := Keep.tr hK0 (Keep.ofNone k2); have hzhK0 := Keep.size hK0
  have hb2lt := hb2.lt
  refine OI_static 3 [(2, .pointer (some ⟨b1, 0, none⟩)), (3, .pointer (some ⟨b2, 0, none⟩))] (by kernel_rfl) ?_
  refine OI_end rfl ?_
  refine X_then ?_
  refine V_seq ?_
  refine V_draws (acts [4, 9, 14, 15, 16]) none_ [[0, 1, 2, 3, 4, 5, 6, 7, 8, 9, 10, 11, 12, 13, 14, 15, 16, 17]] (by kernel_rfl) (by repeat first | exact sure_body (by rintro _ _ ⟨h, _⟩; exact ⟨_, h⟩) | refine sure_then ?_ | refine sure_block ?_ | refine sure_join ?_) (by kernel_rfl) ?_
  intro w4 hk3 he5 L hL6
  replace hb1 := hb1.keep hk3 (fun f => f)
  have hb1lt := hb1.lt
  replace hb2 := hb2.keep hk3 (fun f => f)
  have hb2lt := hb2.lt
  replace hK0 := Keep.tr hK0 (Keep.ofNone hk3); have hzhK0 := Keep.size hK0
  have qhb1 := hb1
  have qhb2 := hb2
  have K7 : Keep none_ w4 w4 := Keep.refl _ _
  obtain rfl := List.mem_singleton.1 hL6
  refine GI_static [1, 2, 3, 4, 5, 6, 7, 8, 9, 10, 11, 12, 13, 14, 15, 16, 17] [(2, .pointer (some ⟨b1, 0, none⟩)), (3, .pointer (some ⟨b2, 0, none⟩)), (5, .pointer (some ⟨b1, 1, none⟩))] (by kernel_rfl) ?_
  refine GI_cell 3 (.tmp 5) 1 (.int .i64 a.at_) (some 6) (by kernel_rfl) (by kernel_rfl) (by kernel_rfl) qhb1 (fun f => f) (m := 1) (by kernel_rfl) rfl ?_
  refine GI_static [3, 4, 5, 6, 7, 8, 9, 10, 11, 12, 13, 14, 15, 16, 17] [(2, .pointer (some ⟨b1, 0, none⟩)), (3, .pointer (some ⟨b2, 0, none⟩)), (6, .int .i64 a.at_), (7, .pointer (some ⟨b2, 1, none⟩))] (by kernel_rfl) ?_
  refine GI_cell 3 (.tmp 7) 1 (.int .i64 b.at_) (some 8) (by kernel_rfl) (by kernel_rfl) (by kernel_rfl) qhb2 (fun f => f) (m := 1) (by kernel_rfl) rfl ?_
  refine GI_call { callee := (Callee.value (Operand.func 34)), args := #[(Operand.tmp 6), (Operand.tmp 8)], argTypes := #[3, 3] } 34 #[.int .i64 a.at_, .int .i64 b.at_] (some 9) (by kernel_rfl) (by kernel_rfl) (by kernel_rfl) (by kernel_rfl) (compare_spec a.at_ b.at_ _) ?_
  rintro _ w4 ⟨rfl, rfl⟩
  refine ⟨_, rfl, K7, ?_⟩
  refine GI_static [6, 7, 8, 9, 10, 11, 12, 13, 14, 15, 16, 17] [(2, .pointer (some ⟨b1, 0, none⟩)), (3, .pointer (some ⟨b2, 0, none⟩)), (9, .int .i64 (cmpI a.at_ b.at_)), (10, .pointer (some ⟨b1, 2, none⟩))] (by kernel_rfl) ?_
  refine GI_cell 3 (.tmp 10) 2 (.int .i64 a.pr) (some 11) (by kernel_rfl) (by kernel_rfl) (by kernel_rfl) qhb1 (fun f => f) (m := 1) (by kernel_rfl) rfl ?_
  refine GI_static [8, 9, 10, 11, 12, 13, 14, 15, 16, 17] [(2, .pointer (some ⟨b1, 0, none⟩)), (3, .pointer (some ⟨b2, 0, none⟩)), (9, .int .i64 (cmpI a.at_ b.at_)), (11, .int .i64 a.pr), (12, .pointer (some ⟨b2, 2, none⟩))] (by kernel_rfl) ?_
  refine GI_cell 3 (.tmp 12) 2 (.int .i64 b.pr) (some 13) (by kernel_rfl) (by kernel_rfl) (by kernel_rfl) qhb2 (fun f => f) (m := 1) (by kernel_rfl) rfl ?_
  refine GI_call { callee := (Callee.value (Operand.func 34)), args := #[(Operand.tmp 11), (Operand.tmp 13)], argTypes := #[3, 3] } 34 #[.int .i64 a.pr, .int .i64 b.pr] (some 14) (by kernel_rfl) (by kernel_rfl) (by kernel_rfl) (by kernel_rfl) (compare_spec a.pr b.pr _) ?_
  rintro _ w4 ⟨rfl, rfl⟩
  refine ⟨_, rfl, K7, ?_⟩
  refine GI_static [11, 12, 13, 14, 15, 16, 17] [(3, .pointer (some ⟨b2, 0, none⟩)), (9, .int .i64 (cmpI a.at_ b.at_)), (14, .int .i64 (cmpI a.pr b.pr)), (15, .pointer (some ⟨b1, 0, none⟩))] (by kernel_rfl) ?_
  refine GI_cell 3 (.tmp 15) 0 (.int .i64 a.name) (some 16) (by kernel_rfl) (by kernel_rfl) (by kernel_rfl) qhb1 (fun f => f) (m := 1) (by kernel_rfl) rfl ?_
  refine GI_static [13, 14, 15, 16, 17] [(9, .int .i64 (cmpI a.at_ b.at_)), (14, .int .i64 (cmpI a.pr b.pr)), (16, .int .i64 a.name), (17, .pointer (some ⟨b2, 0, none⟩))] (by kernel_rfl) ?_
  refine GI_cell 3 (.tmp 17) 0 (.int .i64 b.name) (some 18) (by kernel_rfl) (by kernel_rfl) (by kernel_rfl) qhb2 (fun f => f) (m := 1) (by kernel_rfl) rfl ?_
  refine GI_call { callee := (Callee.value (Operand.func 34)), args := #[(Operand.tmp 16), (Operand.tmp 18)], argTypes := #[3, 3] } 34 #[.int .i64 a.name, .int .i64 b.name] (some 19) (by kernel_rfl) (by kernel_rfl) (by kernel_rfl) (by kernel_rfl) (compare_spec a.name b.name _) ?_
  rintro _ w4 ⟨rfl, rfl⟩
  refine ⟨_, rfl, K7, ?_⟩
  refine GI_slit (E := 3) (zv := .int .i64 0) (sz := 1) (by_ := 8) 22 3 #[(0, (Operand.tmp 9)), (1, (Operand.tmp 14)), (2, (Operand.tmp 19))] [.int .i64 (cmpI a.at_ b.at_), .int .i64 (cmpI a.pr b.pr), .int .i64 (cmpI a.name b.name)] [.int .i64 (cmpI a.at_ b.at_), .int .i64 (cmpI a.pr b.pr), .int .i64 (cmpI a.name b.name)] (some 20) (by kernel_rfl) (by kernel_rfl) K7 (by kernel_rfl) (by kernel_rfl) (by omega) rfl (by omega) (by intro v hv; simp only [List.mem_cons, List.not_mem_nil, or_false] at hv; rcases hv with rfl | rfl | rfl <;> rfl) (by kernel_rfl) rfl ?_
  intro b11 w11 e11 hb11 k11 z11 K12
  replace hb1 := hb1.keep k11 (fun f => f)
  have hb1lt := hb1.lt
  replace hb2 := hb2.keep k11 (fun f => f)
  have hb2lt := hb2.lt
  replace hK0 := Keep.tr hK0 (Keep.ofNone k11); have hzhK0 := Keep.size hK0
  have hb11lt := hb11.lt
  refine GI_call { callee := (Callee.value (Operand.func 33)), args := #[(Operand.tmp 20)], argTypes := #[22] } 33 #[.slice (some ⟨b11, 0, none⟩) 3 3] (some 21) (by kernel_rfl) (by kernel_rfl) (by kernel_rfl) (by kernel_rfl) (or_spec _ 3 [cmpI a.at_ b.at_, cmpI a.pr b.pr, cmpI a.name b.name] _ (slt_blk hb11 (fun _ => rfl) rfl) (by simp)) ?_
  rintro _ w11 ⟨rfl, rfl⟩
  refine ⟨_, rfl, K12, ?_⟩
  refine GI_static [] [(4, .int .i64 (orI [cmpI a.at_ b.at_, cmpI a.pr b.pr, cmpI a.name b.name]))] (by kernel_rfl) ?_
  refine GI_end ?_
  refine X_then ?_
  refine V_ret ?_
  exact X_return (.int .i64 (orI [cmpI a.at_ b.at_, cmpI a.pr b.pr, cmpI a.name b.name])) rfl ⟨rfl, hK0⟩

theorem place1_spec (t : Tk) (c : Nat) (nm : Int) (w : World) (hc : Blk w c [.int .i64 nm] 3) : Calls Try.prog 32 #[.agg t.cells.toArray, .pointer (some ⟨c, 0, none⟩)] w fun e w' => e = .returned (.bool (decide (t.name = nm))) ∧ Keep none_ w w' := by
  have hclt := hc.lt
  have hK0 : Keep none_ w w := Keep.refl _ _
  have hzhK0 := Keep.size hK0
  refine enterV Try.func32 rfl [.agg (Tk.cells t).toArray, .pointer (some ⟨c, 0, none⟩)] 8 rfl rfl rfl ?_
  refine V_pick [(0, .agg (Tk.cells t).toArray), (1, .pointer (some ⟨c, 0, none⟩))] rfl ?_
  refine V_seq ?_
  refine V_region ?_
  refine OI_box 28 (.tmp 0) (.agg (Tk.cells t).toArray) (Tk.cells t) (some 2) (by kernel_rfl) (by kernel_rfl) rfl ?_
  intro b1 w1 e1 hb1 k1 z1
  replace hc := hc.keep k1 (fun f => f)
  have hclt := hc.lt
  replace hK0 := Keep.tr hK0 (Keep.ofNone k1); have hzhK0 := Keep.size hK0
  have hb1lt := hb1.lt
  refine OI_static 2 [(1, .pointer (some ⟨c, 0, none⟩)), (2, .pointer (some ⟨b1, 0, none⟩))] (by kernel_rfl) ?_
  refine OI_end rfl ?_
  refine X_then ?_
  refine V_seq ?_
  refine V_region ?_
  refine OI_static 1 [(1, .pointer (some ⟨c, 0, none⟩)), (4, .pointer (some ⟨b1, 0, none⟩))] (by kernel_rfl) ?_
  refine OI_cell 3 (.tmp 4) 0 (.int .i64 t.name) (some 5) (by kernel_rfl) (by kernel_rfl) hb1 (m := 1) (by kernel_rfl) rfl ?_
  refine OI_cell 3 (.tmp 1) 0 (.int .i64 nm) (some 6) (by kernel_rfl) (by kernel_rfl) hc (m := 1) (by kernel_rfl) rfl ?_
  refine OI_static 5 [(3, .bool (decide (t.name = nm)))] (by kernel_rfl) ?_
  refine OI_end rfl ?_
  refine X_then ?_
  refine V_ret ?_
  exact X_return (.bool (decide (t.name = nm))) rfl ⟨rfl, hK0⟩

def idxFrom {α : Type} (p : α → Bool) : List α → Nat → Int
  | [], _ => -1
  | x :: l, i => if p x then (i : Int) else idxFrom p l (i + 1)
theorem idx_drop {α : Type} {p : α → Bool} {xs : List α} {i : Nat} {x : α} (hx : xs[i]? = some x) : idxFrom p (xs.drop i) i = if p x then (i : Int) else idxFrom p (xs.drop (i + 1)) (i + 1) := by
  obtain ⟨h, rfl⟩ := List.getElem?_eq_some_iff.1 hx
  rw [List.drop_eq_getElem_cons h]; rfl

theorem indexTk_spec (A : Option Addr) (cap : Nat) (xs : List Tk) (F : Nat) (cv : Value) (p : Tk → Bool) (w : World) (hA : SlT w 36 Tk.cells A cap xs) (hn : xs.length ≤ 1000000) (hb : bodied Try.prog F = true)
    (hF : ∀ x ∈ xs, ∀ w1, Keep none_ w w1 → Calls Try.prog F #[.agg x.cells.toArray, cv] w1 fun e w' => e = .returned (.bool (p x)) ∧ Keep none_ w1 w') : Calls Try.prog 31 #[.slice A xs.length cap, .func (.func F) #[] #[cv]] w fun e w' => e = .returned (.int .i64 (idxFrom p xs 0)) ∧ Keep none_ w w' := by
  have hK0 : Keep none_ w w := Keep.refl _ _
  have hzhK0 := Keep.size hK0
  refine enterV Try.func31 rfl [.slice A xs.length cap, .func (.func F) #[] #[cv]] 19 rfl rfl rfl ?_
  refine V_pick [(0, .slice A xs.length cap), (1, .func (.func F) #[] #[cv])] rfl ?_
  refine V_seq ?_
  refine V_region ?_
  refine OI_static 1 [(0, .slice A xs.length cap), (1, .func (.func F) #[] #[cv])] (by kernel_rfl) ?_
  refine OI_end rfl ?_
  refine X_then ?_
  refine V_seq ?_
  refine V_seq ?_
  refine V_region ?_
  refine OI_static 3 [(0, .slice A xs.length cap), (1, .func (.func F) #[] #[cv]), (7, .int .i64 ((xs.length : Nat) : Int)), (8, .int .i64 0)] (by kernel_rfl) ?_
  refine OI_end rfl ?_
  refine X_then ?_
  refine V_block ?_
  refine V_pick [(0, .slice A xs.length cap), (1, .func (.func F) #[] #[cv]), (7, .int .i64 ((xs.length : Nat) : Int)), (8, .int .i64 0)] rfl ?_
  refine V_loop (fun k wI e => ∃ i : Nat, (k + i = xs.length) ∧ (idxFrom p (xs.drop i) i = idxFrom p xs 0) ∧ Keep none_ w wI ∧ e = [(0, .slice A xs.length cap), (1, .func (.func F) #[] #[cv]), (7, .int .i64 ((xs.length : Nat) : Int)), (8, .int .i64 ((i : Nat) : Int))]) xs.length ⟨0, rfl, rfl, Keep.refl _ _, rfl⟩ ?_
  rintro k2 w1 _ ⟨i, hki, ho, hk3, rfl⟩
  replace hA := SlT.keep0 hA hk3
  replace hK0 := Keep.tr hK0 (Keep.ofNone hk3); have hzhK0 := Keep.size hK0
  have hzhk3 := Keep.size hk3
  refine V_seq ?_
  refine V_region ?_
  refine OI_static 1 [(0, .slice A xs.length cap), (1, .func (.func F) #[] #[cv]), (7, .int .i64 ((xs.length : Nat) : Int)), (8, .int .i64 ((i : Nat) : Int)), (9, .bool (decide (((i : Nat) : Int) < ((xs.length : Nat) : Int))))] (by kernel_rfl) ?_
  refine OI_end rfl ?_
  refine X_then ?_
  refine V_seq ?_
  refine V_if (((i : Nat) : Int) < ((xs.length : Nat) : Int)) (by kernel_rfl) (fun hc4 => ?_) (fun hc4 => ?_)
  · skip
    refine V_skip ?_
    refine X_then ?_
    refine V_seq ?_
    refine V_block ?_
    refine V_seq ?_
    refine V_region ?_
    refine OI_static 2 [(0, .slice A xs.length cap), (1, .func (.func F) #[] #[cv]), (5, .int .i64 ((i : Nat) : Int)), (7, .int .i64 ((xs.length : Nat) : Int)), (8, .int .i64 ((i : Nat) : Int))] (by kernel_rfl) ?_
    refine OI_end rfl ?_
    refine X_then ?_
    refine V_seq ?_
    refine V_region ?_
    refine OI_static 3 [(0, .slice A xs.length cap), (1, .func (.func F) #[] #[cv]), (5, .int .i64 ((i : Nat) : Int)), (7, .int .i64 ((xs.length : Nat) : Int)), (8, .int .i64 ((i : Nat) : Int)), (11, .func (.func F) #[] #[cv]), (12, .slice A xs.length cap), (13, .int .i64 ((i : Nat) : Int))] (by kernel_rfl) ?_
    obtain ⟨b5, o5, L5, T5, rfl, hat5⟩ := SlT.open_ hA (by first | omega | simp | (simp; omega))
    have hb5lt := hat5.blk.lt
    refine OI_pure (some 14) (.indexAddr 31 (.tmp 12) (.tmp 13)) (by kernel_rfl) (pure_idxN (b := b5) (o := o5) (len := xs.length) (cap := cap) (kd := .i64) (j := i) (E := 28) (sz := 36) (by_ := 64) (by kernel_rfl) (by kernel_rfl) (by kernel_rfl) (by omega)) ?_
    obtain ⟨x6, hx7⟩ : ∃ x, xs[i]? = some x := ⟨_, List.getElem?_eq_getElem (by omega)⟩
    refine OI_agg 28 (.tmp 14) (o5 + i * 36) (Tk.cells x6) (some 15) (by kernel_rfl) (by kernel_rfl) hat5.blk (m := 36) (by kernel_rfl) (At.elem' hat5 (es_at hx7)) (At.len hat5 (es_at hx7)) ?_
    refine OI_call { callee := (Callee.value (Operand.tmp 11)), args := #[(Operand.tmp 15)], argTypes := #[28] } F #[.agg (Tk.cells x6).toArray, cv] (some 16) (by kernel_rfl) (by kernel_rfl) hb (hF x6 (List.mem_of_getElem? hx7) _ hK0) ?_
    rintro _ w8 ⟨rfl, hk9⟩
    refine ⟨_, rfl, ?_⟩
    replace hat5 := hat5.keep hk9 (fun f => f)
    have hb5lt := hat5.blk.lt
    replace hK0 := Keep.tr hK0 (Keep.ofNone hk9); have hzhK0 := Keep.size hK0
    replace hk3 := Keep.tr hk3 (Keep.ofNone hk9); have hzhk3 := Keep.size hk3
    refine OI_end rfl ?_
    refine X_then ?_
    refine V_ifb (p x6) (by kernel_rfl) (fun hc10 => ?_) (fun hc10 => ?_)
    · skip
      refine V_seq ?_
      refine V_region ?_
      refine OI_static 2 [(4, .int .i64 ((i : Nat) : Int))] (by kernel_rfl) ?_
      refine OI_end rfl ?_
      refine X_then ?_
      refine V_ret ?_
      refine X_ret_block ?_
      refine X_ret_then ?_
      refine X_ret_then ?_
      refine X_ret_block ?_
      refine X_ret_then ?_
      have hz : idxFrom p xs 0 = i := by rw [← ho, idx_drop hx7, hc10]; rfl
      exact X_return _ rfl ⟨by rw [hz], hK0⟩
    · skip
      refine V_skip ?_
      refine X_block ?_
      refine X_then ?_
      refine V_region ?_
      have hw11 : IntKind.i64.wrap (((i : Nat) : Int) + 1) = ((i + 1 : Nat) : Int) := (wrap64_id (by omega) (by omega)).trans (by omega)
      refine OI_static 1 [(0, .slice (some ⟨b5, o5, none⟩) xs.length cap), (1, .func (.func F) #[] #[cv]), (7, .int .i64 ((xs.length : Nat) : Int)), (18, .int .i64 (IntKind.i64.wrap (((i : Nat) : Int) + 1)))] (by kernel_rfl) ?_
      refine OI_eq [(0, .slice (some ⟨b5, o5, none⟩) xs.length cap), (1, .func (.func F) #[] #[cv]), (7, .int .i64 ((xs.length : Nat) : Int)), (18, .int .i64 ((i + 1 : Nat) : Int))] (by rw [hw11]) ?_
      refine OI_static 2 [(0, .slice (some ⟨b5, o5, none⟩) xs.length cap), (1, .func (.func F) #[] #[cv]), (7, .int .i64 ((xs.length : Nat) : Int)), (8, .int .i64 ((i + 1 : Nat) : Int))] (by kernel_rfl) ?_
      refine OI_end rfl ?_
      exact V_again (k2 - 1) (by omega) [(0, .slice (some ⟨b5, o5, none⟩) xs.length cap), (1, .func (.func F) #[] #[cv]), (7, .int .i64 ((xs.length : Nat) : Int)), (8, .int .i64 ((i + 1 : Nat) : Int))] rfl ⟨i + 1, by omega, by rw [← ho, idx_drop hx7, hc10]; rfl, hk3, rfl⟩
  · skip
    refine V_exit ?_
    refine X_exit_then ?_
    refine X_exit_then ?_
    refine X_exit_here ?_
    refine X_then ?_
    refine V_seq ?_
    refine V_region ?_
    refine OI_static 1 [(4, .int .i64 (-1))] (by kernel_rfl) ?_
    refine OI_end rfl ?_
    refine X_then ?_
    refine V_ret ?_
    have he : i = xs.length := by omega
    have hz : idxFrom p xs 0 = -1 := by rw [← ho, he, List.drop_length]; rfl
    exact X_return _ rfl ⟨by rw [hz], hK0⟩

/-- The agenda at g holds the tasks ts. -/
structure AgAt (w : World) (g : Nat) (A : Option Addr) (cap : Nat) (ts : List Tk) : Prop where
  blk : Blk w g [.slice A ts.length cap] 57
  sl : SlT w 36 Tk.cells A cap ts
  off : ¬ inA A g
theorem AgAt.keep0 {w w' : World} {g cap : Nat} {A : Option Addr} {ts : List Tk} (h : AgAt w g A cap ts) (k : Keep none_ w w') : AgAt w' g A cap ts := ⟨h.blk.keep k (fun f => f), h.sl.keep0 k, h.off⟩
def named (nm : Int) (t : Tk) : Bool := decide (t.name = nm)

theorem place_spec (g cap : Nat) (A : Option Addr) (ts : List Tk) (nm : Int) (w : World) (h : AgAt w g A cap ts) (hn : ts.length ≤ 1000000) : Calls Try.prog 23 #[.pointer (some ⟨g, 0, none⟩), .int .i64 nm] w fun e w' => e = .returned (.int .i64 (idxFrom (named nm) ts 0)) ∧ Keep none_ w w' := by
  have hg := h.blk
  have hA := h.sl
  have hglt := hg.lt
  have hK0 : Keep none_ w w := Keep.refl _ _
  have hzhK0 := Keep.size hK0
  refine enterV Try.func23 rfl [.pointer (some ⟨g, 0, none⟩), .int .i64 nm] 11 rfl rfl rfl ?_
  refine V_pick [(0, .pointer (some ⟨g, 0, none⟩)), (1, .int .i64 nm)] rfl ?_
  refine V_seq ?_
  refine V_region ?_
  refine OI_box 3 (.tmp 1) (.int .i64 nm) [.int .i64 nm] (some 3) (by kernel_rfl) (by kernel_rfl) (by kernel_rfl) ?_
  intro b1 w1 e1 hb1 k1 z1
  replace hg := hg.keep k1 (fun f => f)
  have hglt := hg.lt
  replace hA := SlT.keep0 hA k1
  replace hK0 := Keep.tr hK0 (Keep.ofNone k1); have hzhK0 := Keep.size hK0
  have hb1lt := hb1.lt
  refine OI_static 2 [(0, .pointer (some ⟨g, 0, none⟩)), (3, .pointer (some ⟨b1, 0, none⟩))] (by kernel_rfl) ?_
  refine OI_end rfl ?_
  refine X_then ?_
  refine V_seq ?_
  refine V_region ?_
  refine OI_static 3 [(3, .pointer (some ⟨b1, 0, none⟩)), (7, .pointer (some ⟨g, 0, none⟩))] (by kernel_rfl) ?_
  refine OI_cell 31 (.tmp 7) 0 (.slice A ts.length cap) (some 8) (by kernel_rfl) (by kernel_rfl) hg (m := 1) (by kernel_rfl) rfl ?_
  refine OI_static 5 [(8, .slice A ts.length cap), (9, .func (.func 32) #[] #[.pointer (some ⟨b1, 0, none⟩)])] (by kernel_rfl) ?_
  refine OI_call { callee := (Callee.value (Operand.func 31)), args := #[(Operand.tmp 8), (Operand.tmp 9)], argTypes := #[31, 66] } 31 #[.slice A ts.length cap, .func (.func 32) #[] #[.pointer (some ⟨b1, 0, none⟩)]] (some 10) (by kernel_rfl) (by kernel_rfl) (by kernel_rfl) (indexTk_spec A cap ts 32 _ (named nm) _ hA hn (by kernel_rfl) (fun t _ w1 hk => place1_spec t b1 nm w1 (hb1.keep hk (fun f => f)))) ?_
  rintro _ w2 ⟨rfl, hk3⟩
  refine ⟨_, rfl, ?_⟩
  replace hg := hg.keep hk3 (fun f => f)
  have hglt := hg.lt
  replace hb1 := hb1.keep hk3 (fun f => f)
  have hb1lt := hb1.lt
  replace hA := SlT.keep0 hA hk3
  replace hK0 := Keep.tr hK0 (Keep.ofNone hk3); have hzhK0 := Keep.size hK0
  refine OI_static 7 [(4, .int .i64 (idxFrom (named nm) ts 0))] (by kernel_rfl) ?_
  refine OI_end rfl ?_
  refine X_then ?_
  refine V_ret ?_
  exact X_return (.int .i64 (idxFrom (named nm) ts 0)) rfl ⟨rfl, hK0⟩

theorem bsearch_spec (A : Option Addr) (cap : Nat) (xs : List Tk) (t : Tk) (w : World) (hA : SlT w 36 Tk.cells A cap xs) (hn : xs.length ≤ 1000000) (hm : ∀ (i j : Nat) x y, i ≤ j → xs[i]? = some x → xs[j]? = some y → ordI y t < 0 → ordI x t < 0) :
    Calls Try.prog 24 #[.slice A xs.length cap, .agg t.cells.toArray, .func (.func 25) #[] #[]] w fun e w' => ∃ (i : Nat) (b : Bool), e = .returned (.tuple #[.int .i64 (i : Int), .bool b]) ∧ Keep none_ w w' ∧ i ≤ xs.length ∧ (∀ (j : Nat) y, j < i → xs[j]? = some y → ordI y t < 0) ∧ (∀ (j : Nat) y, i ≤ j → xs[j]? = some y → ¬ ordI y t < 0) := by
  have hK0 : Keep none_ w w := Keep.refl _ _
  have hzhK0 := Keep.size hK0
  refine enterV Try.func24 rfl [.slice A xs.length cap, .agg (Tk.cells t).toArray, .func (.func 25) #[] #[]] 49 rfl rfl rfl ?_
  refine V_pick [(0, .slice A xs.length cap), (1, .agg (Tk.cells t).toArray), (2, .func (.func 25) #[] #[])] rfl ?_
  refine V_seq ?_
  refine V_region ?_
  refine OI_box 28 (.tmp 1) (.agg (Tk.cells t).toArray) (Tk.cells t) (some 4) (by kernel_rfl) (by kernel_rfl) rfl ?_
  intro b1 w1 e1 hb1 k1 z1
  replace hA := SlT.keep0 hA k1
  replace hK0 := Keep.tr hK0 (Keep.ofNone k1); have hzhK0 := Keep.size hK0
  have hb1lt := hb1.lt
  refine OI_static 3 [(0, .slice A xs.length cap), (2, .func (.func 25) #[] #[]), (4, .pointer (some ⟨b1, 0, none⟩))] (by kernel_rfl) ?_
  refine OI_end rfl ?_
  refine X_then ?_
  refine V_seq ?_
  refine V_region ?_
  refine OI_static 3 [(0, .slice A xs.length cap), (2, .func (.func 25) #[] #[]), (4, .pointer (some ⟨b1, 0, none⟩)), (8, .int .i64 ((xs.length : Nat) : Int))] (by kernel_rfl) ?_
  refine OI_end rfl ?_
  refine X_then ?_
  refine V_seq ?_
  refine V_region ?_
  refine OI_static 3 [(0, .slice A xs.length cap), (2, .func (.func 25) #[] #[]), (4, .pointer (some ⟨b1, 0, none⟩)), (8, .int .i64 ((xs.length : Nat) : Int)), (9, .int .i64 0), (10, .int .i64 ((xs.length : Nat) : Int))] (by kernel_rfl) ?_
  refine OI_end rfl ?_
  refine X_then ?_
  refine V_seq ?_
  refine V_block ?_
  refine V_pick [(0, .slice A xs.length cap), (2, .func (.func 25) #[] #[]), (4, .pointer (some ⟨b1, 0, none⟩)), (8, .int .i64 ((xs.length : Nat) : Int)), (9, .int .i64 0), (10, .int .i64 ((xs.length : Nat) : Int))] rfl ?_
  refine V_loop (fun k wI e => ∃ lo : Nat, ∃ hi : Nat, (k + lo = hi) ∧ (lo ≤ hi) ∧ (hi ≤ xs.length) ∧ (∀ (j : Nat) y, j < lo → xs[j]? = some y → ordI y t < 0) ∧ (∀ (j : Nat) y, hi ≤ j → xs[j]? = some y → ¬ ordI y t < 0) ∧ Keep none_ w1 wI ∧ e = [(0, .slice A xs.length cap), (2, .func (.func 25) #[] #[]), (4, .pointer (some ⟨b1, 0, none⟩)), (8, .int .i64 ((xs.length : Nat) : Int)), (9, .int .i64 ((lo : Nat) : Int)), (10, .int .i64 ((hi : Nat) : Int))]) xs.length ⟨0, xs.length, rfl, Nat.zero_le _, Nat.le_refl _, fun j y hj => absurd hj (Nat.not_lt_zero _), fun j y hj hy => absurd (List.getElem?_eq_some_iff.1 hy).1 (by omega), Keep.refl _ _, rfl⟩ ?_
  rintro k3 w2 _ ⟨lo, hi, hk2, hlo, hhi, hbef, haft, hk4, rfl⟩
  replace hb1 := hb1.keep hk4 (fun f => f)
  have hb1lt := hb1.lt
  replace hA := SlT.keep0 hA hk4
  replace hK0 := Keep.tr hK0 (Keep.ofNone hk4); have hzhK0 := Keep.size hK0
  have hzhk4 := Keep.size hk4
  refine V_seq ?_
  refine V_seq ?_
  refine V_region ?_
  refine OI_static 3 [(0, .slice A xs.length cap), (2, .func (.func 25) #[] #[]), (4, .pointer (some ⟨b1, 0, none⟩)), (8, .int .i64 ((xs.length : Nat) : Int)), (9, .int .i64 ((lo : Nat) : Int)), (10, .int .i64 ((hi : Nat) : Int)), (17, .bool (decide (((lo : Nat) : Int) < ((hi : Nat) : Int))))] (by kernel_rfl) ?_
  refine OI_end rfl ?_
  refine X_then ?_
  refine V_if (((lo : Nat) : Int) < ((hi : Nat) : Int)) (by kernel_rfl) (fun hc5 => ?_) (fun hc5 => ?_)
  · skip
    refine V_skip ?_
    refine X_then ?_
    refine V_block ?_
    refine V_seq ?_
    refine V_region ?_
    have hw6 : IntKind.i64.wrap (((lo : Nat) : Int) + ((hi : Nat) : Int)) = ((lo + hi : Nat) : Int) := (wrap64_id (by omega) (by omega)).trans (by omega)
    refine OI_static 3 [(0, .slice A xs.length cap), (2, .func (.func 25) #[] #[]), (4, .pointer (some ⟨b1, 0, none⟩)), (8, .int .i64 ((xs.length : Nat) : Int)), (9, .int .i64 ((lo : Nat) : Int)), (10, .int .i64 ((hi : Nat) : Int)), (20, .int .i64 (IntKind.i64.wrap (((lo : Nat) : Int) + ((hi : Nat) : Int))))] (by kernel_rfl) ?_
    refine OI_eq [(0, .slice A xs.length cap), (2, .func (.func 25) #[] #[]), (4, .pointer (some ⟨b1, 0, none⟩)), (8, .int .i64 ((xs.length : Nat) : Int)), (9, .int .i64 ((lo : Nat) : Int)), (10, .int .i64 ((hi : Nat) : Int)), (20, .int .i64 ((lo + hi : Nat) : Int))] (by rw [hw6]) ?_
    have hw7 : IntKind.u64.wrap ((lo + hi : Nat) : Int) = ((lo + hi : Nat) : Int) := wrap_u64 (by omega)
    refine OI_static 4 [(0, .slice A xs.length cap), (2, .func (.func 25) #[] #[]), (4, .pointer (some ⟨b1, 0, none⟩)), (8, .int .i64 ((xs.length : Nat) : Int)), (9, .int .i64 ((lo : Nat) : Int)), (10, .int .i64 ((hi : Nat) : Int)), (21, .int .u64 (IntKind.u64.wrap ((lo + hi : Nat) : Int)))] (by kernel_rfl) ?_
    refine OI_eq [(0, .slice A xs.length cap), (2, .func (.func 25) #[] #[]), (4, .pointer (some ⟨b1, 0, none⟩)), (8, .int .i64 ((xs.length : Nat) : Int)), (9, .int .i64 ((lo : Nat) : Int)), (10, .int .i64 ((hi : Nat) : Int)), (21, .int .u64 ((lo + hi : Nat) : Int))] (by rw [hw7]) ?_
    have hw8 : Int.fdiv ((lo + hi : Nat) : Int) (2 ^ 1) = (((lo + hi) / 2 : Nat) : Int) := shr1 _
    refine OI_static 5 [(0, .slice A xs.length cap), (2, .func (.func 25) #[] #[]), (4, .pointer (some ⟨b1, 0, none⟩)), (8, .int .i64 ((xs.length : Nat) : Int)), (9, .int .i64 ((lo : Nat) : Int)), (10, .int .i64 ((hi : Nat) : Int)), (22, .int .u64 (Int.fdiv ((lo + hi : Nat) : Int) (2 ^ 1)))] (by kernel_rfl) ?_
    refine OI_eq [(0, .slice A xs.length cap), (2, .func (.func 25) #[] #[]), (4, .pointer (some ⟨b1, 0, none⟩)), (8, .int .i64 ((xs.length : Nat) : Int)), (9, .int .i64 ((lo : Nat) : Int)), (10, .int .i64 ((hi : Nat) : Int)), (22, .int .u64 (((lo + hi) / 2 : Nat) : Int))] (by rw [hw8]) ?_
    have hw9 : IntKind.i64.wrap (((lo + hi) / 2 : Nat) : Int) = (((lo + hi) / 2 : Nat) : Int) := wrap64_id (by omega) (by omega)
    refine OI_static 6 [(0, .slice A xs.length cap), (2, .func (.func 25) #[] #[]), (4, .pointer (some ⟨b1, 0, none⟩)), (8, .int .i64 ((xs.length : Nat) : Int)), (9, .int .i64 ((lo : Nat) : Int)), (10, .int .i64 ((hi : Nat) : Int)), (23, .int .i64 (IntKind.i64.wrap (((lo + hi) / 2 : Nat) : Int)))] (by kernel_rfl) ?_
    refine OI_eq [(0, .slice A xs.length cap), (2, .func (.func 25) #[] #[]), (4, .pointer (some ⟨b1, 0, none⟩)), (8, .int .i64 ((xs.length : Nat) : Int)), (9, .int .i64 ((lo : Nat) : Int)), (10, .int .i64 ((hi : Nat) : Int)), (23, .int .i64 (((lo + hi) / 2 : Nat) : Int))] (by rw [hw9]) ?_
    refine OI_static 7 [(0, .slice A xs.length cap), (2, .func (.func 25) #[] #[]), (4, .pointer (some ⟨b1, 0, none⟩)), (8, .int .i64 ((xs.length : Nat) : Int)), (9, .int .i64 ((lo : Nat) : Int)), (10, .int .i64 ((hi : Nat) : Int)), (11, .int .i64 (((lo + hi) / 2 : Nat) : Int))] (by kernel_rfl) ?_
    refine OI_end rfl ?_
    refine X_then ?_
    refine V_seq ?_
    refine V_draws (acts [6]) none_ [[0, 1, 2, 3, 4, 5, 6, 7]] (by kernel_rfl) (by repeat first | exact sure_body (by rintro _ _ ⟨_, _, h, _⟩; exact ⟨_, h⟩) | refine sure_then ?_ | refine sure_block ?_ | refine sure_join ?_) (by kernel_rfl) ?_
    intro w11 hk10 he12 L hL13
    replace hb1 := hb1.keep hk10 (fun f => f)
    have hb1lt := hb1.lt
    replace hA := SlT.keep0 hA hk10
    replace hK0 := Keep.tr hK0 (Keep.ofNone hk10); have hzhK0 := Keep.size hK0
    replace hk4 := Keep.tr hk4 (Keep.ofNone hk10); have hzhk4 := Keep.size hk4
    have qhb1 := hb1
    have K14 : Keep none_ w11 w11 := Keep.refl _ _
    obtain rfl := List.mem_singleton.1 hL13
    refine GI_static [3, 4, 5, 6, 7] [(0, .slice A xs.length cap), (2, .func (.func 25) #[] #[]), (4, .pointer (some ⟨b1, 0, none⟩)), (8, .int .i64 ((xs.length : Nat) : Int)), (9, .int .i64 ((lo : Nat) : Int)), (10, .int .i64 ((hi : Nat) : Int)), (11, .int .i64 (((lo + hi) / 2 : Nat) : Int)), (24, .func (.func 25) #[] #[]), (25, .slice A xs.length cap), (26, .int .i64 (((lo + hi) / 2 : Nat) : Int))] (by kernel_rfl) ?_
    obtain ⟨b15, o15, L15, T15, rfl, hat15⟩ := SlT.open_ hA (by first | omega | simp | (simp; omega))
    have hb15lt := hat15.blk.lt
    refine GI_pure (some 27) (.indexAddr 31 (.tmp 25) (.tmp 26)) (by kernel_rfl) (by kernel_rfl) (pure_idxN (b := b15) (o := o15) (len := xs.length) (cap := cap) (kd := .i64) (j := (lo + hi) / 2) (E := 28) (sz := 36) (by_ := 64) (by kernel_rfl) (by kernel_rfl) (by kernel_rfl) (by omega)) ?_
    obtain ⟨x16, hx17⟩ : ∃ x, xs[(lo + hi) / 2]? = some x := ⟨_, List.getElem?_eq_getElem (by omega)⟩
    refine GI_agg 28 (.tmp 27) (o15 + ((lo + hi) / 2) * 36) (Tk.cells x16) (some 28) (by kernel_rfl) (by kernel_rfl) (by kernel_rfl) hat15.blk (fun f => f) (m := 36) (by kernel_rfl) (At.elem' hat15 (es_at hx17)) (At.len hat15 (es_at hx17)) ?_
    refine GI_agg 28 (.tmp 4) 0 (Tk.cells t) (some 29) (by kernel_rfl) (by kernel_rfl) (by kernel_rfl) qhb1 (fun f => f) (m := 36) (by kernel_rfl) (take_all (Tk.len _)) (Tk.len _) ?_
    refine GI_call { callee := (Callee.value (Operand.tmp 24)), args := #[(Operand.tmp 28), (Operand.tmp 29)], argTypes := #[28, 28] } 25 #[.agg (Tk.cells x16).toArray, .agg (Tk.cells t).toArray] (some 30) (by kernel_rfl) (by kernel_rfl) (by kernel_rfl) (by kernel_rfl) (order_spec x16 t _) ?_
    rintro _ w18 ⟨rfl, hk19⟩
    have K20 := K14.tr (Keep.ofNone hk19)
    refine ⟨_, rfl, K20, ?_⟩
    have hzK20 := Keep.size K20
    replace hb1 := hb1.keep hk19 (fun f => f)
    have hb1lt := hb1.lt
    replace hat15 := hat15.keep hk19 (fun f => f)
    have hb15lt := hat15.blk.lt
    replace hK0 := Keep.tr hK0 (Keep.ofNone hk19); have hzhK0 := Keep.size hK0
    replace hk4 := Keep.tr hk4 (Keep.ofNone hk19); have hzhk4 := Keep.size hk4
    refine GI_static [] [(0, .slice (some ⟨b15, o15, none⟩) xs.length cap), (2, .func (.func 25) #[] #[]), (4, .pointer (some ⟨b1, 0, none⟩)), (8, .int .i64 ((xs.length : Nat) : Int)), (9, .int .i64 ((lo : Nat) : Int)), (10, .int .i64 ((hi : Nat) : Int)), (11, .int .i64 (((lo + hi) / 2 : Nat) : Int)), (31, .bool (decide (ordI x16 t < 0)))] (by kernel_rfl) ?_
    refine GI_end ?_
    refine X_then ?_
    refine V_if (ordI x16 t < 0) (by kernel_rfl) (fun hc21 => ?_) (fun hc21 => ?_)
    · skip
      refine V_region ?_
      have hw22 : IntKind.i64.wrap ((((lo + hi) / 2 : Nat) : Int) + 1) = (((lo + hi) / 2 + 1 : Nat) : Int) := (wrap64_id (by omega) (by omega)).trans (by omega)
      refine OI_static 2 [(0, .slice (some ⟨b15, o15, none⟩) xs.length cap), (2, .func (.func 25) #[] #[]), (4, .pointer (some ⟨b1, 0, none⟩)), (8, .int .i64 ((xs.length : Nat) : Int)), (10, .int .i64 ((hi : Nat) : Int)), (33, .int .i64 (IntKind.i64.wrap ((((lo + hi) / 2 : Nat) : Int) + 1)))] (by kernel_rfl) ?_
      refine OI_eq [(0, .slice (some ⟨b15, o15, none⟩) xs.length cap), (2, .func (.func 25) #[] #[]), (4, .pointer (some ⟨b1, 0, none⟩)), (8, .int .i64 ((xs.length : Nat) : Int)), (10, .int .i64 ((hi : Nat) : Int)), (33, .int .i64 (((lo + hi) / 2 + 1 : Nat) : Int))] (by rw [hw22]) ?_
      refine OI_static 3 [(0, .slice (some ⟨b15, o15, none⟩) xs.length cap), (2, .func (.func 25) #[] #[]), (4, .pointer (some ⟨b1, 0, none⟩)), (8, .int .i64 ((xs.length : Nat) : Int)), (9, .int .i64 (((lo + hi) / 2 + 1 : Nat) : Int)), (10, .int .i64 ((hi : Nat) : Int))] (by kernel_rfl) ?_
      refine OI_end rfl ?_
      refine X_block ?_
      exact V_again (hi - ((lo + hi) / 2 + 1)) (by omega) [(0, .slice (some ⟨b15, o15, none⟩) xs.length cap), (2, .func (.func 25) #[] #[]), (4, .pointer (some ⟨b1, 0, none⟩)), (8, .int .i64 ((xs.length : Nat) : Int)), (9, .int .i64 (((lo + hi) / 2 + 1 : Nat) : Int)), (10, .int .i64 ((hi : Nat) : Int))] rfl ⟨(lo + hi) / 2 + 1, hi, by omega, by omega, by omega, fun j y hj hy => hm j ((lo + hi) / 2) y x16 (by omega) hy hx17 hc21, haft, hk4, rfl⟩
    · skip
      refine V_region ?_
      refine OI_static 2 [(0, .slice (some ⟨b15, o15, none⟩) xs.length cap), (2, .func (.func 25) #[] #[]), (4, .pointer (some ⟨b1, 0, none⟩)), (8, .int .i64 ((xs.length : Nat) : Int)), (9, .int .i64 ((lo : Nat) : Int)), (10, .int .i64 (((lo + hi) / 2 : Nat) : Int))] (by kernel_rfl) ?_
      refine OI_end rfl ?_
      refine X_block ?_
      exact V_again ((lo + hi) / 2 - lo) (by omega) [(0, .slice (some ⟨b15, o15, none⟩) xs.length cap), (2, .func (.func 25) #[] #[]), (4, .pointer (some ⟨b1, 0, none⟩)), (8, .int .i64 ((xs.length : Nat) : Int)), (9, .int .i64 ((lo : Nat) : Int)), (10, .int .i64 (((lo + hi) / 2 : Nat) : Int))] rfl ⟨lo, (lo + hi) / 2, by omega, by omega, by omega, hbef, fun j y hj hy hlt => hc21 (hm ((lo + hi) / 2) j x16 y (by omega) hx17 hy hlt), hk4, rfl⟩
  · skip
    refine V_exit ?_
    refine X_exit_then ?_
    refine X_exit_then ?_
    refine X_exit_here ?_
    refine X_then ?_
    refine V_seq ?_
    refine V_draws (acts [11]) none_ [[1, 2, 3, 4, 5, 6, 7, 8, 9, 10, 11, 0, 12, 13, 14, 15]] (by kernel_rfl) (by repeat first | exact sure_body (by rintro _ _ ⟨_, _, h, _⟩; exact ⟨_, h⟩) | refine sure_then ?_ | refine sure_block ?_ | refine sure_join ?_) (by kernel_rfl) ?_
    intro w24 hk23 he25 L hL26
    replace hb1 := hb1.keep hk23 (fun f => f)
    have hb1lt := hb1.lt
    replace hA := SlT.keep0 hA hk23
    replace hK0 := Keep.tr hK0 (Keep.ofNone hk23); have hzhK0 := Keep.size hK0
    replace hk4 := Keep.tr hk4 (Keep.ofNone hk23); have hzhk4 := Keep.size hk4
    have qhb1 := hb1
    have K27 : Keep none_ w24 w24 := Keep.refl _ _
    obtain rfl := List.mem_singleton.1 hL26
    refine GI_static [5, 6, 7, 8, 9, 10, 11, 0, 12, 13, 14, 15] [(0, .slice A xs.length cap), (2, .func (.func 25) #[] #[]), (4, .pointer (some ⟨b1, 0, none⟩)), (9, .int .i64 ((lo : Nat) : Int)), (39, .bool (decide (((lo : Nat) : Int) < ((xs.length : Nat) : Int))))] (by kernel_rfl) ?_
    by_cases hg28 : ((lo : Nat) : Int) < ((xs.length : Nat) : Int)
    · skip
      refine GI_eq [(0, .slice A xs.length cap), (2, .func (.func 25) #[] #[]), (4, .pointer (some ⟨b1, 0, none⟩)), (9, .int .i64 ((lo : Nat) : Int)), (39, .bool true)] (by simp [hg28]) ?_
      refine GI_static [8, 9, 10, 11, 0, 12, 13, 14, 15] [(4, .pointer (some ⟨b1, 0, none⟩)), (9, .int .i64 ((lo : Nat) : Int)), (39, .bool true), (40, .func (.func 25) #[] #[]), (41, .slice A xs.length cap), (42, .int .i64 ((lo : Nat) : Int))] (by kernel_rfl) ?_
      obtain ⟨b29, o29, L29, T29, rfl, hat29⟩ := SlT.open_ hA (by first | omega | simp | (simp; omega))
      have hb29lt := hat29.blk.lt
      refine GI_pure (some 43) (.indexAddr 31 (.tmp 41) (.tmp 42)) (by kernel_rfl) (by kernel_rfl) (pure_idxN (b := b29) (o := o29) (len := xs.length) (cap := cap) (kd := .i64) (j := lo) (E := 28) (sz := 36) (by_ := 64) (by kernel_rfl) (by kernel_rfl) (by kernel_rfl) (by omega)) ?_
      obtain ⟨x30, hx31⟩ : ∃ x, xs[lo]? = some x := ⟨_, List.getElem?_eq_getElem (by omega)⟩
      refine GI_agg 28 (.tmp 43) (o29 + lo * 36) (Tk.cells x30) (some 44) (by kernel_rfl) (by kernel_rfl) (by kernel_rfl) hat29.blk (fun f => f) (m := 36) (by kernel_rfl) (At.elem' hat29 (es_at hx31)) (At.len hat29 (es_at hx31)) ?_
      refine GI_agg 28 (.tmp 4) 0 (Tk.cells t) (some 45) (by kernel_rfl) (by kernel_rfl) (by kernel_rfl) qhb1 (fun f => f) (m := 36) (by kernel_rfl) (take_all (Tk.len _)) (Tk.len _) ?_
      refine GI_call { callee := (Callee.value (Operand.tmp 40)), args := #[(Operand.tmp 44), (Operand.tmp 45)], argTypes := #[28, 28] } 25 #[.agg (Tk.cells x30).toArray, .agg (Tk.cells t).toArray] (some 46) (by kernel_rfl) (by kernel_rfl) (by kernel_rfl) (by kernel_rfl) (order_spec x30 t _) ?_
      rintro _ w32 ⟨rfl, hk33⟩
      have K34 := K27.tr (Keep.ofNone hk33)
      refine ⟨_, rfl, K34, ?_⟩
      have hzK34 := Keep.size K34
      replace hb1 := hb1.keep hk33 (fun f => f)
      have hb1lt := hb1.lt
      replace hat29 := hat29.keep hk33 (fun f => f)
      have hb29lt := hat29.blk.lt
      replace hK0 := Keep.tr hK0 (Keep.ofNone hk33); have hzhK0 := Keep.size hK0
      replace hk4 := Keep.tr hk4 (Keep.ofNone hk33); have hzhk4 := Keep.size hk4
      refine GI_static [] [(6, .int .i64 ((lo : Nat) : Int)), (7, .bool (decide (ordI x30 t = 0)))] (by kernel_rfl) ?_
      refine GI_end ?_
      refine X_then ?_
      refine V_ret ?_
      have hlh : lo = hi := by omega
      subst hlh
      exact X_return (.tuple #[.int .i64 ((lo : Nat) : Int), .bool (decide (ordI x30 t = 0))]) rfl ⟨lo, _, rfl, hK0, by omega, hbef, haft⟩
    · skip
      refine GI_eq [(0, .slice A xs.length cap), (2, .func (.func 25) #[] #[]), (4, .pointer (some ⟨b1, 0, none⟩)), (9, .int .i64 ((lo : Nat) : Int)), (39, .bool false)] (by simp [hg28]) ?_
      refine GI_static [] [(6, .int .i64 ((lo : Nat) : Int)), (7, .bool false)] (by kernel_rfl) ?_
      refine GI_end ?_
      refine X_then ?_
      refine V_ret ?_
      have hlh : lo = hi := by omega
      subst hlh
      exact X_return (.tuple #[.int .i64 ((lo : Nat) : Int), .bool false]) rfl ⟨lo, _, rfl, hK0, by omega, hbef, haft⟩
end Go.Al
