/-
  Walks of the laws of grid: rows are columns.
-/
import Derived.Test.YtijhhcnahepdlaaGr11
import Derived.Test.YtijhhcnahepdlaaArg
namespace Go.Al
open Go Go.RowKit Go.Proofs
/-! ### Acts -/
structure Ac4 where
  k : Int
  a : Int
  b : Int
  n : Int
def Ac4.cells (x : Ac4) : List Value := [.int .i64 x.k, .int .i64 x.a, .int .i64 x.b, .int .i64 x.n]
theorem Ac4.len (x : Ac4) : x.cells.length = 4 := rfl
theorem Ac4.one (x : Ac4) : ∀ u ∈ x.cells, u.oneCell' = true := one_all' rfl
theorem lift_Ac4 (x : List Value) (h : Flat [.int .i64, .int .i64, .int .i64, .int .i64] x) : ∃ y : Ac4, y.cells = x := by
  match x, h with
  | [], h => exact h.elim
  | [_], h => exact h.2.elim
  | [_, _], h => exact h.2.2.elim
  | [_, _, _], h => exact h.2.2.2.elim
  | [v1, v2, v3, v4], h =>
    obtain ⟨⟨n1, rfl, _⟩, ⟨n2, rfl, _⟩, ⟨n3, rfl, _⟩, ⟨n4, rfl, _⟩, _⟩ := h
    exact ⟨⟨n1, n2, n3, n4⟩, rfl⟩
  | _ :: _ :: _ :: _ :: _ :: _, h => exact h.2.2.2.2.elim

/-! ### Rows are columns -/
def key (a b : Int) (c : Ci) : Bool := c.a == a && c.b == b
theorem key_iff (a b : Int) (c : Ci) : key a b c = true ↔ c.a = a ∧ c.b = b := by simp [key]
theorem nokey {a b : Int} {l : List Ci} (h : ∀ y ∈ l, ltC a b y.a y.b) : l.filter (fun c => !key a b c) = l :=
  List.filter_eq_self.2 fun y hy => by
    have := h y hy
    rw [Bool.not_eq_true', ← Bool.not_eq_true, key_iff]
    unfold ltC at this; omega
theorem delC_filter {a b : Int} : ∀ {cs : List Ci}, Srt cs → delC a b cs = cs.filter (fun c => !key a b c)
  | [], _ => rfl
  | x :: l, h => by
    have h := List.pairwise_cons.1 h
    simp only [delC]
    by_cases hk : x.a = a ∧ x.b = b
    · rw [if_pos hk, List.filter_cons_of_neg (by rw [(key_iff a b x).2 hk]; simp)]
      exact (nokey (fun y hy => by have := h.1 y hy; rw [hk.1, hk.2] at this; exact this)).symm
    · rw [if_neg hk, List.filter_cons_of_pos (by rw [Bool.not_eq_true', ← Bool.not_eq_true, key_iff]; exact hk), delC_filter h.2]
theorem setC_perm {a b v : Int} : ∀ {cs : List Ci}, Srt cs → (setC a b v cs).Perm (⟨a, b, v⟩ :: cs.filter (fun c => !key a b c))
  | [], _ => List.Perm.refl _
  | x :: l, h => by
    have h := List.pairwise_cons.1 h
    simp only [setC]
    by_cases hk : x.a = a ∧ x.b = b
    · rw [if_pos hk, List.filter_cons_of_neg (by rw [(key_iff a b x).2 hk]; simp), nokey (fun y hy => by have := h.1 y hy; rw [hk.1, hk.2] at this; exact this)]
    · rw [if_neg hk]
      by_cases hl : ltC x.a x.b a b
      · rw [if_pos hl, List.filter_cons_of_pos (by rw [Bool.not_eq_true', ← Bool.not_eq_true, key_iff]; exact hk)]
        exact ((setC_perm h.2).cons x).trans (List.Perm.swap _ _ _)
      · rw [if_neg hl]
        have hgt : ltC a b x.a x.b := by unfold ltC at *; omega
        rw [nokey (l := x :: l) (fun y hy => by
          rcases List.mem_cons.1 hy with rfl | hy
          · exact hgt
          · exact ltC_trans hgt (h.1 y hy))]
theorem getC_any (a b : Int) : ∀ cs : List Ci, (getC a b cs).isSome = cs.any (key a b)
  | [] => rfl
  | x :: l => by
    simp only [getC, List.any_cons]
    by_cases hk : x.a = a ∧ x.b = b
    · rw [if_pos hk, (key_iff a b x).2 hk]; rfl
    · rw [if_neg hk, getC_any a b l]
      have : key a b x = false := by rw [← Bool.not_eq_true, key_iff]; exact hk
      rw [this, Bool.false_or]
def sw (c : Ci) : Ci := ⟨c.b, c.a, c.v⟩
theorem key_sw (a b : Int) (c : Ci) : key b a (sw c) = key a b c := by simp [key, sw, Bool.and_comm]
def SW (G H : List Ci) : Prop := Srt G ∧ Srt H ∧ (G.map sw).Perm H ∧ H.length = G.length
theorem SW.filter {G H : List Ci} (h : (G.map sw).Perm H) (a b : Int) : ((G.filter (fun c => !key a b c)).map sw).Perm (H.filter (fun c => !key b a c)) := by
  have h2 := h.filter (fun c => !key b a c)
  rw [List.filter_map] at h2
  have e : ((fun c => !key b a c) ∘ sw) = (fun c => !key a b c) := by funext c; simp [key_sw]
  rw [e] at h2
  exact h2
theorem SW.mk' {G H : List Ci} (h1 : Srt G) (h2 : Srt H) (h3 : (G.map sw).Perm H) : SW G H := ⟨h1, h2, h3, by have := h3.length_eq; simpa using this.symm⟩
theorem SW.del {G H : List Ci} (h : SW G H) (a b : Int) : SW (delC a b G) (delC b a H) := by
  refine SW.mk' (h.1.del a b).1 (h.2.1.del b a).1 ?_
  rw [delC_filter h.1, delC_filter h.2.1]
  exact SW.filter h.2.2.1 a b
theorem SW.set {G H : List Ci} (h : SW G H) (a b v : Int) : SW (setC a b v G) (setC b a v H) := by
  refine SW.mk' (Srt.set h.1).1 (Srt.set h.2.1).1 ?_
  refine ((setC_perm h.1).map sw).trans (List.Perm.trans ?_ (setC_perm h.2.1).symm)
  exact (SW.filter h.2.2.1 a b).cons _
theorem SW.get {G H : List Ci} (h : SW G H) (a b : Int) : (getC a b G).isSome = (getC b a H).isSome := by
  rw [getC_any, getC_any, Bool.eq_iff_iff, List.any_eq_true, List.any_eq_true]
  constructor
  · rintro ⟨c, hc, hk⟩
    exact ⟨sw c, h.2.2.1.mem_iff.1 (List.mem_map_of_mem hc), by rw [key_sw]; exact hk⟩
  · rintro ⟨c, hc, hk⟩
    obtain ⟨d, hd, rfl⟩ := List.mem_map.1 (h.2.2.1.mem_iff.2 hc)
    exact ⟨d, hd, by rw [key_sw] at hk; exact hk⟩
theorem rowL_srt {G : List Ci} (h : Srt G) (n : Int) : (rowL n G).Pairwise (fun x y => x.1 < y.1) := by
  unfold rowL
  rw [List.pairwise_map]
  refine (List.Pairwise.filter _ h).imp_of_mem fun {x y} hx hy hlt => ?_
  have hx : x.a = n := by simpa using (List.mem_filter.1 hx).2
  have hy : y.a = n := by simpa using (List.mem_filter.1 hy).2
  unfold ltC at hlt
  show x.b < y.b
  omega
theorem colL_srt {G : List Ci} (h : Srt G) (n : Int) : (colL n G).Pairwise (fun x y => x.1 < y.1) := by
  unfold colL
  rw [List.pairwise_map]
  refine (List.Pairwise.filter _ h).imp_of_mem fun {x y} hx hy hlt => ?_
  have hx : x.b = n := by simpa using (List.mem_filter.1 hx).2
  have hy : y.b = n := by simpa using (List.mem_filter.1 hy).2
  unfold ltC at hlt
  show x.a < y.a
  omega
theorem SW.row {G H : List Ci} (h : SW G H) (n : Int) : colL n H = rowL n G := by
  refine List.Perm.eq_of_pairwise (le := fun x y => x.1 < y.1) (fun a b _ _ h1 h2 => by omega) (colL_srt h.2.1 n) (rowL_srt h.1 n) ?_
  have h1 := (h.2.2.1.filter (fun c : Ci => c.b == n)).map (fun c : Ci => (c.a, c.v))
  rw [List.filter_map, List.map_map] at h1
  exact h1.symm
def swG (xs : List Ac4) : Nat → List Ci
  | 0 => []
  | i + 1 => match xs[i]? with | some x => if x.k = 2 then delC x.a x.b (swG xs i) else setC x.a x.b x.n (swG xs i) | none => swG xs i
def swH (xs : List Ac4) : Nat → List Ci
  | 0 => []
  | i + 1 => match xs[i]? with | some x => if x.k = 2 then delC x.b x.a (swH xs i) else setC x.b x.a x.n (swH xs i) | none => swH xs i
theorem sw_all (xs : List Ac4) : ∀ i, SW (swG xs i) (swH xs i) ∧ (swG xs i).length ≤ i
  | 0 => ⟨SW.mk' List.Pairwise.nil List.Pairwise.nil (List.Perm.refl _), Nat.le_refl _⟩
  | i + 1 => by
    obtain ⟨h, hl⟩ := sw_all xs i
    simp only [swG, swH]
    cases xs[i]? with
    | none => exact ⟨h, Nat.le_trans hl (Nat.le_succ _)⟩
    | some x =>
      simp only []
      by_cases hk : x.k = 2
      · rw [if_pos hk, if_pos hk]; exact ⟨h.del _ _, by have := (h.1.del x.a x.b).2; omega⟩
      · rw [if_neg hk, if_neg hk]; exact ⟨h.set _ _ _, by have := (Srt.set (a := x.a) (b := x.b) (v := x.n) h.1).2; omega⟩
theorem swG_del {xs : List Ac4} {i : Nat} {x : Ac4} (hx : xs[i]? = some x) (hk : x.k = 2) : delC x.a x.b (swG xs i) = swG xs (i + 1) ∧ delC x.b x.a (swH xs i) = swH xs (i + 1) := by
  simp only [swG, swH, hx, if_pos hk, and_self]
theorem swG_set {xs : List Ac4} {i : Nat} {x : Ac4} (hx : xs[i]? = some x) (hk : ¬ x.k = 2) : setC x.a x.b x.n (swG xs i) = swG xs (i + 1) ∧ setC x.b x.a x.n (swH xs i) = swH xs (i + 1) := by
  simp only [swG, swH, hx, if_neg hk, and_self]

set_option maxHeartbeats 2000000 in
set_option maxRecDepth 10000 in
theorem walk_GridSwaps (A : Option Addr) (cap : Nat) (xs : List Ac4) (at_ : Int) (w : World) (hA0 : ArgT w 4 Ac4.cells A cap xs) (hcap : xs.length ≤ 9223372036854775807) : Calls Try.prog 5 #[.slice A xs.length cap, .int .i64 at_] w fun e w' => e = .returned (.bool true) ∧ Keep none_ w w' := by
  have hA := hA0
  have hK0 : Keep none_ w w := Keep.refl _ _
  have hzhK0 := Keep.size hK0
  refine enterV Try.func5 rfl [.slice A xs.length cap, .int .i64 at_] 143 rfl rfl rfl ?_
  refine V_pick [(0, .slice A xs.length cap), (1, .int .i64 at_)] rfl ?_
  refine V_seq ?_
  refine V_region ?_
  refine OI_static 1 [(0, .slice A xs.length cap), (1, .int .i64 at_)] (by kernel_rfl) ?_
  refine OI_end rfl ?_
  refine X_then ?_
  refine V_seq ?_
  refine V_seq ?_
  refine V_region ?_
  refine OI_static 3 [(0, .slice A xs.length cap), (1, .int .i64 at_), (18, .bool (decide (((xs.length : Nat) : Int) > 10000)))] (by kernel_rfl) ?_
  refine OI_end rfl ?_
  refine X_then ?_
  refine V_if (((xs.length : Nat) : Int) > 10000) (by kernel_rfl) (fun hc1 => ?_) (fun hc1 => ?_)
  · skip
    refine V_seq ?_
    refine V_region ?_
    refine OI_static 1 [(4, .bool true)] (by kernel_rfl) ?_
    refine OI_end rfl ?_
    refine X_then ?_
    refine V_ret ?_
    refine X_ret_then ?_
    exact X_return (.bool true) rfl ⟨rfl, hK0⟩
  · skip
    refine V_skip ?_
    refine X_then ?_
    refine V_seq ?_
    refine V_region ?_
    refine OI_call { callee := (Callee.value (Operand.func 10)), args := #[], argTypes := #[] } 10 #[] (some 19) (by kernel_rfl) (by kernel_rfl) (by kernel_rfl) (new_grd _) ?_
    rintro _ w4 ⟨g6, F7, rfl, ho8, hk5, hge9⟩
    refine ⟨_, rfl, ?_⟩
    have hsz10 := Keep.size hk5
    replace hA := ArgT.keep0 hA hk5
    replace hK0 := Keep.tr hK0 (Keep.ofNone hk5); have hzhK0 := Keep.size hK0
    have own11 : ∀ q, F7 q → w.heap.size ≤ q := fun q hq => by have h1 := hge9 q hq; omega
    have lt12 := Grd.lt ho8
    have hg6lt : g6 < w4.heap.size := Grd.lt ho8 _ (Grd.at_ ho8)
    have hg6ge := hge9 _ (Grd.at_ ho8)
    refine OI_call { callee := (Callee.value (Operand.func 10)), args := #[], argTypes := #[] } 10 #[] (some 20) (by kernel_rfl) (by kernel_rfl) (by kernel_rfl) (new_grd _) ?_
    rintro _ w15 ⟨g17, F18, rfl, ho19, hk16, hge20⟩
    refine ⟨_, rfl, ?_⟩
    have hsz21 := Keep.size hk16
    replace hA := ArgT.keep0 hA hk16
    replace hK0 := Keep.tr hK0 (Keep.ofNone hk16); have hzhK0 := Keep.size hK0
    replace ho8 := Grd.keep ho8 hk16 (fun _ _ f => f)
    have own22 : ∀ q, F18 q → w4.heap.size ≤ q := fun q hq => by have h1 := hge20 q hq; omega
    have lt23 := Grd.lt ho19
    have dis24 : ∀ q, F18 q → ¬ F7 q := fun q h1 h2 => by have h3 := hge20 q h1; have h4 := lt12 q h2; omega
    have hg17lt : g17 < w15.heap.size := Grd.lt ho19 _ (Grd.at_ ho19)
    have hg17ge := hge20 _ (Grd.at_ ho19)
    refine OI_static 4 [(0, .slice A xs.length cap), (1, .int .i64 at_), (5, .pointer (some ⟨g6, 0, none⟩)), (6, .pointer (some ⟨g17, 0, none⟩))] (by kernel_rfl) ?_
    refine OI_end rfl ?_
    refine X_then ?_
    refine V_seq ?_
    refine V_seq ?_
    refine V_region ?_
    refine OI_static 6 [(0, .slice A xs.length cap), (1, .int .i64 at_), (5, .pointer (some ⟨g6, 0, none⟩)), (6, .pointer (some ⟨g17, 0, none⟩)), (26, .bool false)] (by kernel_rfl) ?_
    refine OI_end rfl ?_
    refine X_then ?_
    refine V_false rfl ?_
    refine V_skip ?_
    refine X_then ?_
    refine V_seq ?_
    refine V_seq ?_
    refine V_region ?_
    refine OI_static 1 [(0, .slice A xs.length cap), (1, .int .i64 at_), (5, .pointer (some ⟨g6, 0, none⟩)), (6, .pointer (some ⟨g17, 0, none⟩)), (7, .int .i64 0)] (by kernel_rfl) ?_
    refine OI_end rfl ?_
    refine X_then ?_
    refine V_block ?_
    refine V_pick [(0, .slice A xs.length cap), (1, .int .i64 at_), (5, .pointer (some ⟨g6, 0, none⟩)), (6, .pointer (some ⟨g17, 0, none⟩)), (7, .int .i64 0)] rfl ?_
    refine V_loop (fun k wI e => ∃ i : Nat, ∃ F25 : Nat → Prop, ∃ F29 : Nat → Prop, (k + i = min xs.length 100) ∧ (i ≤ 100) ∧ (Grd F25 wI g6 (swG xs i)) ∧ (∀ q, F25 q → w.heap.size ≤ q) ∧ (∀ q, F25 q → F7 q ∨ w15.heap.size ≤ q) ∧ (Grd F29 wI g17 (swH xs i)) ∧ (∀ q, F29 q → w4.heap.size ≤ q) ∧ (∀ q, F29 q → F18 q ∨ w15.heap.size ≤ q) ∧ (∀ q, F29 q → ¬ F25 q) ∧ Keep (fun q => F7 q ∨ F18 q) w15 wI ∧ e = [(0, .slice A xs.length cap), (1, .int .i64 at_), (5, .pointer (some ⟨g6, 0, none⟩)), (6, .pointer (some ⟨g17, 0, none⟩)), (7, .int .i64 ((i : Nat) : Int))]) (min xs.length 100) ⟨0, F7, F18, by omega, by omega, ho8, (fun q hq => by have h1 := own11 q hq; have h2 := lt12 q hq; omega), fun q h => .inl h, ho19, (fun q hq => by have h1 := own22 q hq; have h2 := lt23 q hq; omega), fun q h => .inl h, dis24, Keep.refl _ _, rfl⟩ ?_
    rintro k35 w34 _ ⟨i, F25, F29, hki, hi9, ho26, own27, rel28, ho30, own31, rel32, dis33, hk36, rfl⟩
    have hsz37 := Keep.size hk36
    replace hA := ArgT.keep hA hk36 hA0 (fun k hk hs => by rcases hs with hs | hs; (have h1 := own11 k hs; have h2 := lt12 k hs; omega); (have h1 := own22 k hs; have h2 := lt23 k hs; omega))
    replace hK0 := Keep.fresh hK0 hk36 (by intro i hi hs; rcases hs with hs | hs; (have h1 := own11 i hs; have h2 := lt12 i hs; omega); (have h1 := own22 i hs; have h2 := lt23 i hs; omega)); have hzhK0 := Keep.size hK0
    have hzhk36 := Keep.size hk36
    have lt38 := Grd.lt ho26
    have hg6lt : g6 < w34.heap.size := Grd.lt ho26 _ (Grd.at_ ho26)
    have lt39 := Grd.lt ho30
    have hg17lt : g17 < w34.heap.size := Grd.lt ho30 _ (Grd.at_ ho30)
    obtain ⟨hsw, hsl⟩ := sw_all xs i
    have hsl2 := hsw.2.2.2
    refine V_seq ?_
    refine V_seq ?_
    refine V_region ?_
    refine OI_static 5 [(0, .slice A xs.length cap), (1, .int .i64 at_), (5, .pointer (some ⟨g6, 0, none⟩)), (6, .pointer (some ⟨g17, 0, none⟩)), (7, .int .i64 ((i : Nat) : Int)), (31, .bool (decide (((i : Nat) : Int) < ((xs.length : Nat) : Int))))] (by kernel_rfl) ?_
    by_cases hg40 : ((i : Nat) : Int) < ((xs.length : Nat) : Int)
    · skip
      refine OI_eq [(0, .slice A xs.length cap), (1, .int .i64 at_), (5, .pointer (some ⟨g6, 0, none⟩)), (6, .pointer (some ⟨g17, 0, none⟩)), (7, .int .i64 ((i : Nat) : Int)), (31, .bool true)] (by first | simp [hg40] | rfl) ?_
      refine OI_static 8 [(0, .slice A xs.length cap), (1, .int .i64 at_), (5, .pointer (some ⟨g6, 0, none⟩)), (6, .pointer (some ⟨g17, 0, none⟩)), (7, .int .i64 ((i : Nat) : Int)), (32, .int .i64 ((i : Nat) : Int)), (33, .bool (decide (((i : Nat) : Int) < 100))), (34, .bool (decide (((i : Nat) : Int) < 100)))] (by kernel_rfl) ?_
      refine OI_end rfl ?_
      refine X_then ?_
      refine V_if (((i : Nat) : Int) < 100) (by kernel_rfl) (fun hc41 => ?_) (fun hc41 => ?_)
      · skip
        refine V_skip ?_
        refine X_then ?_
        refine V_seq ?_
        refine V_block ?_
        refine V_seq ?_
        refine V_region ?_
        refine OI_static 2 [(0, .slice A xs.length cap), (1, .int .i64 at_), (5, .pointer (some ⟨g6, 0, none⟩)), (6, .pointer (some ⟨g17, 0, none⟩)), (7, .int .i64 ((i : Nat) : Int)), (32, .int .i64 ((i : Nat) : Int)), (33, .bool (decide (((i : Nat) : Int) < 100))), (37, .slice A xs.length cap), (38, .int .i64 ((i : Nat) : Int))] (by kernel_rfl) ?_
        obtain ⟨b42, o42, L42, rfl, hat42⟩ := ArgT.open_ hA (by first | omega | (simp only [List.length_map]; omega) | (simp; done) | (simp; omega))
        have hb42lt0 := ArgT.lt hA0 (by first | omega | (simp only [List.length_map]; omega) | (simp; done) | (simp; omega))
        have hb42lt := hat42.blk.lt
        refine OI_pure (some 39) (.indexAddr 40 (.tmp 37) (.tmp 38)) (by kernel_rfl) (pure_idxN (b := b42) (o := o42) (len := xs.length) (cap := cap) (kd := .i64) (j := i) (E := 42) (sz := 4) (by_ := 32) (by kernel_rfl) (by kernel_rfl) (by kernel_rfl) (by omega)) ?_
        obtain ⟨x43, hx44⟩ : ∃ x, xs[i]? = some x := ⟨_, List.getElem?_eq_getElem (by first | omega | (simp only [List.length_map]; omega))⟩
        refine OI_aggR 42 (.tmp 39) (o42 + i * 4) (Ac4.cells x43) (some 40) (by kernel_rfl) (by kernel_rfl) hat42.blk (m := 4) (by kernel_rfl) (AtR.elem' hat42 _ _ (es_at hx44)) (AtR.len hat42 (es_at hx44)) ?_
        refine OI_alloc 42 (.agg #[.int .i64 0, .int .i64 0, .int .i64 0, .int .i64 0]) [.int .i64 0, .int .i64 0, .int .i64 0, .int .i64 0] (some 8) (by kernel_rfl) (by kernel_rfl) (by kernel_rfl) ?_
        intro b45 w45 e45 hb45 k45 z45
        have hsz46 := Keep.size k45
        replace hat42 := hat42.keep k45 (fun f => f)
        have hb42lt := hat42.blk.lt
        replace hK0 := Keep.tr hK0 (Keep.ofNone k45); have hzhK0 := Keep.size hK0
        replace hk36 := Keep.tr hk36 (Keep.ofNone k45); have hzhk36 := Keep.size hk36
        replace ho26 := Grd.keep ho26 k45 (fun _ _ f => f)
        replace ho30 := Grd.keep ho30 k45 (fun _ _ f => f)
        have hb45lt := hb45.lt
        refine OI_set (m := 4) (kd := true) 42 (.tmp 8) (.tmp 40) 0 (.agg (Ac4.cells x43).toArray) (Ac4.cells x43) none (by kernel_rfl) (by kernel_rfl) (by kernel_rfl) hb45 (by kernel_rfl) rfl (Ac4.len _) (Nat.le_of_ble_eq_true (by kernel_rfl)) (Ac4.one _) ?_
        intro w47 hb45_50 hk48 hz49
        replace hb45_50 : Blk w47 b45 (Ac4.cells x43) 42 := (by rwa [over_whole (by rw [Ac4.len]; rfl)] at hb45_50)
        have hsz51 := Keep.size hk48
        replace hat42 := hat42.keep hk48 (by show ¬ (_ = _); omega)
        have hb42lt := hat42.blk.lt
        replace hK0 := Keep.fresh hK0 hk48 (by intro i hi hs; first | exact hs | exact Or.inl hs | exact Or.inr hs | (exfalso; have hs2 : i = b45 := hs; omega)); have hzhK0 := Keep.size hK0
        replace hk36 := Keep.fresh hk36 hk48 (by intro i hi hs; first | exact hs | exact Or.inl hs | exact Or.inr hs | (exfalso; have hs2 : i = b45 := hs; omega)); have hzhk36 := Keep.size hk36
        replace ho26 := Grd.keep ho26 hk48 (fun q hq hs => by have hs : q = b45 := hs; have g0 := own27 q hq; have g1 := lt38 q hq; omega)
        replace ho30 := Grd.keep ho30 hk48 (fun q hq hs => by have hs : q = b45 := hs; have g0 := own31 q hq; have g1 := lt39 q hq; omega)
        refine OI_end rfl ?_
        refine X_then ?_
        refine V_seq ?_
        refine V_seq ?_
        refine V_region ?_
        refine OI_static 1 [(0, .slice (some ⟨b42, o42, none⟩) xs.length cap), (1, .int .i64 at_), (5, .pointer (some ⟨g6, 0, none⟩)), (6, .pointer (some ⟨g17, 0, none⟩)), (7, .int .i64 ((i : Nat) : Int)), (8, .pointer (some ⟨b45, 0, none⟩)), (32, .int .i64 ((i : Nat) : Int)), (33, .bool (decide (((i : Nat) : Int) < 100))), (41, .pointer (some ⟨b45, 0, none⟩))] (by kernel_rfl) ?_
        refine OI_cell 3 (.tmp 41) 0 (.int .i64 x43.k) (some 42) (by kernel_rfl) (by kernel_rfl) hb45_50 (m := 1) (by kernel_rfl) rfl ?_
        refine OI_static 3 [(0, .slice (some ⟨b42, o42, none⟩) xs.length cap), (1, .int .i64 at_), (5, .pointer (some ⟨g6, 0, none⟩)), (6, .pointer (some ⟨g17, 0, none⟩)), (7, .int .i64 ((i : Nat) : Int)), (8, .pointer (some ⟨b45, 0, none⟩)), (32, .int .i64 ((i : Nat) : Int)), (33, .bool (decide (((i : Nat) : Int) < 100))), (43, .bool (decide (x43.k = 2)))] (by kernel_rfl) ?_
        refine OI_end rfl ?_
        refine X_then ?_
        refine V_if (x43.k = 2) (by kernel_rfl) (fun hc52 => ?_) (fun hc52 => ?_)
        · skip
          refine V_seq ?_
          refine V_seq ?_
          refine V_draws (acts [5, 11]) (fun q => q ≠ b45) [[0, 1, 2, 3, 4, 5, 6, 7, 8, 9, 10, 11, 12]] (by kernel_rfl) (by repeat first | exact sure_body (by rintro _ _ ⟨h, _⟩; exact ⟨_, h⟩) | refine sure_then ?_ | refine sure_block ?_ | refine sure_join ?_) (by kernel_rfl) ?_
          intro w54 hk53 he55 L hL56
          have hsz57 := Keep.size hk53
          replace hb45_50 := hb45_50.keep hk53 (fun f => f)
          have hb45lt := hb45_50.lt
          replace hat42 := hat42.keep hk53 (fun f => f)
          have hb42lt := hat42.blk.lt
          replace hK0 := Keep.tr hK0 (Keep.ofNone hk53); have hzhK0 := Keep.size hK0
          replace hk36 := Keep.tr hk36 (Keep.ofNone hk53); have hzhk36 := Keep.size hk36
          replace ho26 := Grd.keep ho26 hk53 (fun _ _ f => f)
          replace ho30 := Grd.keep ho30 hk53 (fun _ _ f => f)
          have qhb45_50 := hb45_50
          have qhat42 := hat42
          have K58 : Keep (fun q => q ≠ b45) w54 w54 := Keep.refl _ _
          obtain rfl := List.mem_singleton.1 hL56
          refine GI_static [2, 3, 4, 5, 6, 7, 8, 9, 10, 11, 12] [(0, .slice (some ⟨b42, o42, none⟩) xs.length cap), (1, .int .i64 at_), (5, .pointer (some ⟨g6, 0, none⟩)), (6, .pointer (some ⟨g17, 0, none⟩)), (7, .int .i64 ((i : Nat) : Int)), (8, .pointer (some ⟨b45, 0, none⟩)), (32, .int .i64 ((i : Nat) : Int)), (33, .bool (decide (((i : Nat) : Int) < 100))), (44, .pointer (some ⟨g6, 0, none⟩)), (45, .pointer (some ⟨b45, 1, none⟩))] (by kernel_rfl) ?_
          refine GI_cell 3 (.tmp 45) 1 (.int .i64 x43.a) (some 46) (by kernel_rfl) (by kernel_rfl) (by kernel_rfl) qhb45_50 (by show ¬ (b45 ≠ b45); omega) (m := 1) (by kernel_rfl) rfl ?_
          refine GI_static [4, 5, 6, 7, 8, 9, 10, 11, 12] [(0, .slice (some ⟨b42, o42, none⟩) xs.length cap), (1, .int .i64 at_), (5, .pointer (some ⟨g6, 0, none⟩)), (6, .pointer (some ⟨g17, 0, none⟩)), (7, .int .i64 ((i : Nat) : Int)), (8, .pointer (some ⟨b45, 0, none⟩)), (32, .int .i64 ((i : Nat) : Int)), (33, .bool (decide (((i : Nat) : Int) < 100))), (44, .pointer (some ⟨g6, 0, none⟩)), (46, .int .i64 x43.a), (47, .pointer (some ⟨b45, 2, none⟩))] (by kernel_rfl) ?_
          refine GI_cell 3 (.tmp 47) 2 (.int .i64 x43.b) (some 48) (by kernel_rfl) (by kernel_rfl) (by kernel_rfl) qhb45_50 (by show ¬ (b45 ≠ b45); omega) (m := 1) (by kernel_rfl) rfl ?_
          refine GI_call { callee := (Callee.value (Operand.func 19)), args := #[(Operand.tmp 44), (Operand.tmp 46), (Operand.tmp 48)], argTypes := #[22, 3, 3] } 19 #[.pointer (some ⟨g6, 0, none⟩), .int .i64 x43.a, .int .i64 x43.b] (some 49) (by kernel_rfl) (by kernel_rfl) (by kernel_rfl) (by kernel_rfl) (del_grd F25 g6 (swG xs i) x43.a x43.b _ ho26) ?_
          rintro _ w59 ⟨rfl, ⟨F61, ho62, hfr63⟩, hk60⟩
          have K64 := Keep.fresh K58 hk60 (by intro i hi hs; have h1 := own27 i hs; have h2 := lt38 i hs; show i ≠ b45; omega)
          refine ⟨_, rfl, K64, ?_⟩
          have hzK64 := Keep.size K64
          have hsz65 := Keep.size hk60
          replace hb45_50 := hb45_50.keep hk60 (fun hs => by have h1 := own27 _ hs; have h2 := lt38 _ hs; omega)
          have hb45lt := hb45_50.lt
          replace hat42 := hat42.keep hk60 (fun hs => by have h1 := own27 _ hs; have h2 := lt38 _ hs; omega)
          have hb42lt := hat42.blk.lt
          replace hK0 := Keep.fresh hK0 hk60 (by intro i hi hs; first | exact hs | (exfalso; have h1 := own27 i hs; have h2 := lt38 i hs; omega) | (have h1 := own27 i hs; have h2 := lt38 i hs; show _ ∨ _; omega)); have hzhK0 := Keep.size hK0
          replace hk36 := Keep.fresh hk36 hk60 (fun i hi hs => by rcases rel28 i hs with h | h; exact .inl h; (exfalso; omega)); have hzhk36 := Keep.size hk36
          replace ho30 := Grd.keep ho30 hk60 (fun q hq hs => (fun q h1 h2 => dis33 q h2 h1) q hs hq)
          have own67 : ∀ q, F61 q → w.heap.size ≤ q ∧ q ≠ b45 := fun q hq => by rcases hfr63 q hq with h | h; (have h1 := own27 q h; have h2 := lt38 q h; omega); omega
          have lt66 := Grd.lt ho62
          have rel68 : ∀ q, F61 q → F7 q ∨ w15.heap.size ≤ q := fun q hq => by rcases hfr63 q hq with h | h; exact rel28 q h; exact .inr (by omega)
          have dis69 : ∀ q, F61 q → ¬ F29 q := fun q h1 h2 => by rcases hfr63 q h1 with h | h; exact (fun q h1 h2 => dis33 q h2 h1) q h h2; (have h4 := lt39 q h2; omega)
          refine GI_static [8, 9, 10, 11, 12] [(0, .slice (some ⟨b42, o42, none⟩) xs.length cap), (1, .int .i64 at_), (5, .pointer (some ⟨g6, 0, none⟩)), (6, .pointer (some ⟨g17, 0, none⟩)), (7, .int .i64 ((i : Nat) : Int)), (8, .pointer (some ⟨b45, 0, none⟩)), (32, .int .i64 ((i : Nat) : Int)), (33, .bool (decide (((i : Nat) : Int) < 100))), (49, .bool ((getC x43.a x43.b (swG xs i)).isSome)), (50, .pointer (some ⟨g17, 0, none⟩)), (51, .pointer (some ⟨b45, 2, none⟩))] (by kernel_rfl) ?_
          refine GI_cell 3 (.tmp 51) 2 (.int .i64 x43.b) (some 52) (by kernel_rfl) (by kernel_rfl) (by kernel_rfl) qhb45_50 (by show ¬ (b45 ≠ b45); omega) (m := 1) (by kernel_rfl) rfl ?_
          refine GI_static [10, 11, 12] [(0, .slice (some ⟨b42, o42, none⟩) xs.length cap), (1, .int .i64 at_), (5, .pointer (some ⟨g6, 0, none⟩)), (6, .pointer (some ⟨g17, 0, none⟩)), (7, .int .i64 ((i : Nat) : Int)), (32, .int .i64 ((i : Nat) : Int)), (33, .bool (decide (((i : Nat) : Int) < 100))), (49, .bool ((getC x43.a x43.b (swG xs i)).isSome)), (50, .pointer (some ⟨g17, 0, none⟩)), (52, .int .i64 x43.b), (53, .pointer (some ⟨b45, 1, none⟩))] (by kernel_rfl) ?_
          refine GI_cell 3 (.tmp 53) 1 (.int .i64 x43.a) (some 54) (by kernel_rfl) (by kernel_rfl) (by kernel_rfl) qhb45_50 (by show ¬ (b45 ≠ b45); omega) (m := 1) (by kernel_rfl) rfl ?_
          refine GI_call0 { callee := (Callee.value (Operand.func 19)), args := #[(Operand.tmp 50), (Operand.tmp 52), (Operand.tmp 54)], argTypes := #[22, 3, 3] } 19 #[.pointer (some ⟨g17, 0, none⟩), .int .i64 x43.b, .int .i64 x43.a] (some 55) (by kernel_rfl) (by kernel_rfl) (by kernel_rfl) (by kernel_rfl) (by kernel_rfl) (del_grd F29 g17 (swH xs i) x43.b x43.a _ ho30) ?_
          rintro _ w70 ⟨rfl, ⟨F72, ho73, hfr74⟩, hk71⟩
          refine ⟨_, rfl, ?_⟩
          have hsz75 := Keep.size hk71
          replace hb45_50 := hb45_50.keep hk71 (fun hs => by have h1 := own31 _ hs; have h2 := lt39 _ hs; omega)
          have hb45lt := hb45_50.lt
          replace hat42 := hat42.keep hk71 (fun hs => by have h1 := own31 _ hs; have h2 := lt39 _ hs; omega)
          have hb42lt := hat42.blk.lt
          replace hK0 := Keep.fresh hK0 hk71 (by intro i hi hs; first | exact hs | (exfalso; have h1 := own31 i hs; have h2 := lt39 i hs; omega) | (have h1 := own31 i hs; have h2 := lt39 i hs; show _ ∨ _; omega)); have hzhK0 := Keep.size hK0
          replace hk36 := Keep.fresh hk36 hk71 (fun i hi hs => by rcases rel32 i hs with h | h; exact .inr h; (exfalso; omega)); have hzhk36 := Keep.size hk36
          replace ho62 := Grd.keep ho62 hk71 (fun q hq hs => (fun q h1 h2 => dis69 q h2 h1) q hs hq)
          have own77 : ∀ q, F72 q → w4.heap.size ≤ q ∧ q ≠ b45 := fun q hq => by rcases hfr74 q hq with h | h; (have h1 := own31 q h; have h2 := lt39 q h; omega); omega
          have lt76 := Grd.lt ho73
          have rel78 : ∀ q, F72 q → F18 q ∨ w15.heap.size ≤ q := fun q hq => by rcases hfr74 q hq with h | h; exact rel32 q h; exact .inr (by omega)
          have dis79 : ∀ q, F72 q → ¬ F61 q := fun q h1 h2 => by rcases hfr74 q h1 with h | h; exact (fun q h1 h2 => dis69 q h2 h1) q h h2; (have h4 := lt66 q h2; omega)
          refine GI_static [] [(0, .slice (some ⟨b42, o42, none⟩) xs.length cap), (1, .int .i64 at_), (5, .pointer (some ⟨g6, 0, none⟩)), (6, .pointer (some ⟨g17, 0, none⟩)), (7, .int .i64 ((i : Nat) : Int)), (32, .int .i64 ((i : Nat) : Int)), (33, .bool (decide (((i : Nat) : Int) < 100))), (56, .bool (!(((getC x43.a x43.b (swG xs i)).isSome) == ((getC x43.b x43.a (swH xs i)).isSome))))] (by kernel_rfl) ?_
          refine GI_end ?_
          refine X_then ?_
          refine V_eq [(0, .slice (some ⟨b42, o42, none⟩) xs.length cap), (1, .int .i64 at_), (5, .pointer (some ⟨g6, 0, none⟩)), (6, .pointer (some ⟨g17, 0, none⟩)), (7, .int .i64 ((i : Nat) : Int)), (32, .int .i64 ((i : Nat) : Int)), (33, .bool (decide (((i : Nat) : Int) < 100))), (56, .bool false)] (by rw [hsw.get x43.a x43.b]; simp) ?_
          refine V_false rfl ?_
          refine V_skip ?_
          refine X_then ?_
          refine V_exit ?_
          refine X_exit_then ?_
          refine X_exit_here ?_
          refine X_then ?_
          refine V_region ?_
          have hw81 : IntKind.i64.wrap (((i : Nat) : Int) + 1) = ((i + 1 : Nat) : Int) := (wrap64_id (by omega) (by omega)).trans (by omega)
          refine OI_static 2 [(0, .slice (some ⟨b42, o42, none⟩) xs.length cap), (1, .int .i64 at_), (5, .pointer (some ⟨g6, 0, none⟩)), (6, .pointer (some ⟨g17, 0, none⟩)), (32, .int .i64 ((i : Nat) : Int)), (33, .bool (decide (((i : Nat) : Int) < 100))), (36, .int .i64 (IntKind.i64.wrap (((i : Nat) : Int) + 1)))] (by kernel_rfl) ?_
          refine OI_eq [(0, .slice (some ⟨b42, o42, none⟩) xs.length cap), (1, .int .i64 at_), (5, .pointer (some ⟨g6, 0, none⟩)), (6, .pointer (some ⟨g17, 0, none⟩)), (32, .int .i64 ((i : Nat) : Int)), (33, .bool (decide (((i : Nat) : Int) < 100))), (36, .int .i64 ((i + 1 : Nat) : Int))] (by rw [hw81]) ?_
          refine OI_static 3 [(0, .slice (some ⟨b42, o42, none⟩) xs.length cap), (1, .int .i64 at_), (5, .pointer (some ⟨g6, 0, none⟩)), (6, .pointer (some ⟨g17, 0, none⟩)), (7, .int .i64 ((i + 1 : Nat) : Int)), (32, .int .i64 ((i : Nat) : Int)), (33, .bool (decide (((i : Nat) : Int) < 100)))] (by kernel_rfl) ?_
          refine OI_end rfl ?_
          rw [(swG_del hx44 hc52).1] at ho62; rw [(swG_del hx44 hc52).2] at ho73
          exact V_again (k35 - 1) (by omega) [(0, .slice (some ⟨b42, o42, none⟩) xs.length cap), (1, .int .i64 at_), (5, .pointer (some ⟨g6, 0, none⟩)), (6, .pointer (some ⟨g17, 0, none⟩)), (7, .int .i64 ((i + 1 : Nat) : Int))] rfl ⟨i + 1, F61, F72, by omega, by omega, ho62, (fun q hq => by have h1 := own67 q hq; have h2 := lt66 q hq; omega), rel68, ho73, (fun q hq => by have h1 := own77 q hq; have h2 := lt76 q hq; omega), rel78, dis79, hk36, rfl⟩
        · skip
          refine V_skip ?_
          refine X_then ?_
          refine V_seq ?_
          refine V_region ?_
          refine OI_static 2 [(0, .slice (some ⟨b42, o42, none⟩) xs.length cap), (1, .int .i64 at_), (5, .pointer (some ⟨g6, 0, none⟩)), (6, .pointer (some ⟨g17, 0, none⟩)), (7, .int .i64 ((i : Nat) : Int)), (8, .pointer (some ⟨b45, 0, none⟩)), (32, .int .i64 ((i : Nat) : Int)), (33, .bool (decide (((i : Nat) : Int) < 100))), (57, .pointer (some ⟨g6, 0, none⟩)), (58, .pointer (some ⟨b45, 1, none⟩))] (by kernel_rfl) ?_
          refine OI_cell 3 (.tmp 58) 1 (.int .i64 x43.a) (some 59) (by kernel_rfl) (by kernel_rfl) hb45_50 (m := 1) (by kernel_rfl) rfl ?_
          refine OI_static 4 [(0, .slice (some ⟨b42, o42, none⟩) xs.length cap), (1, .int .i64 at_), (5, .pointer (some ⟨g6, 0, none⟩)), (6, .pointer (some ⟨g17, 0, none⟩)), (7, .int .i64 ((i : Nat) : Int)), (8, .pointer (some ⟨b45, 0, none⟩)), (32, .int .i64 ((i : Nat) : Int)), (33, .bool (decide (((i : Nat) : Int) < 100))), (57, .pointer (some ⟨g6, 0, none⟩)), (59, .int .i64 x43.a), (60, .pointer (some ⟨b45, 2, none⟩))] (by kernel_rfl) ?_
          refine OI_cell 3 (.tmp 60) 2 (.int .i64 x43.b) (some 61) (by kernel_rfl) (by kernel_rfl) hb45_50 (m := 1) (by kernel_rfl) rfl ?_
          refine OI_static 6 [(0, .slice (some ⟨b42, o42, none⟩) xs.length cap), (1, .int .i64 at_), (5, .pointer (some ⟨g6, 0, none⟩)), (6, .pointer (some ⟨g17, 0, none⟩)), (7, .int .i64 ((i : Nat) : Int)), (8, .pointer (some ⟨b45, 0, none⟩)), (32, .int .i64 ((i : Nat) : Int)), (33, .bool (decide (((i : Nat) : Int) < 100))), (57, .pointer (some ⟨g6, 0, none⟩)), (59, .int .i64 x43.a), (61, .int .i64 x43.b), (62, .pointer (some ⟨b45, 3, none⟩))] (by kernel_rfl) ?_
          refine OI_cell 3 (.tmp 62) 3 (.int .i64 x43.n) (some 63) (by kernel_rfl) (by kernel_rfl) hb45_50 (m := 1) (by kernel_rfl) rfl ?_
          refine OI_call { callee := (Callee.value (Operand.func 11)), args := #[(Operand.tmp 57), (Operand.tmp 59), (Operand.tmp 61), (Operand.tmp 63)], argTypes := #[22, 3, 3, 3] } 11 #[.pointer (some ⟨g6, 0, none⟩), .int .i64 x43.a, .int .i64 x43.b, .int .i64 x43.n] (some 64) (by kernel_rfl) (by kernel_rfl) (by kernel_rfl) (set_grd F25 g6 (swG xs i) x43.a x43.b x43.n _ ho26 (by omega)) ?_
          rintro _ w84 ⟨rfl, ⟨F86, ho87, hfr88⟩, hk85⟩
          refine ⟨_, rfl, ?_⟩
          have hsz89 := Keep.size hk85
          replace hb45_50 := hb45_50.keep hk85 (fun hs => by have h1 := own27 _ hs; have h2 := lt38 _ hs; omega)
          have hb45lt := hb45_50.lt
          replace hat42 := hat42.keep hk85 (fun hs => by have h1 := own27 _ hs; have h2 := lt38 _ hs; omega)
          have hb42lt := hat42.blk.lt
          replace hK0 := Keep.fresh hK0 hk85 (by intro i hi hs; first | exact hs | (exfalso; have h1 := own27 i hs; have h2 := lt38 i hs; omega) | (have h1 := own27 i hs; have h2 := lt38 i hs; show _ ∨ _; omega)); have hzhK0 := Keep.size hK0
          replace hk36 := Keep.fresh hk36 hk85 (fun i hi hs => by rcases rel28 i hs with h | h; exact .inl h; (exfalso; omega)); have hzhk36 := Keep.size hk36
          replace ho30 := Grd.keep ho30 hk85 (fun q hq hs => (fun q h1 h2 => dis33 q h2 h1) q hs hq)
          have own91 : ∀ q, F86 q → w.heap.size ≤ q ∧ q ≠ b45 := fun q hq => by rcases hfr88 q hq with h | h; (have h1 := own27 q h; have h2 := lt38 q h; omega); omega
          have lt90 := Grd.lt ho87
          have rel92 : ∀ q, F86 q → F7 q ∨ w15.heap.size ≤ q := fun q hq => by rcases hfr88 q hq with h | h; exact rel28 q h; exact .inr (by omega)
          have dis93 : ∀ q, F86 q → ¬ F29 q := fun q h1 h2 => by rcases hfr88 q h1 with h | h; exact (fun q h1 h2 => dis33 q h2 h1) q h h2; (have h4 := lt39 q h2; omega)
          refine OI_end rfl ?_
          refine X_then ?_
          refine V_region ?_
          refine OI_static 2 [(0, .slice (some ⟨b42, o42, none⟩) xs.length cap), (1, .int .i64 at_), (5, .pointer (some ⟨g6, 0, none⟩)), (6, .pointer (some ⟨g17, 0, none⟩)), (7, .int .i64 ((i : Nat) : Int)), (8, .pointer (some ⟨b45, 0, none⟩)), (32, .int .i64 ((i : Nat) : Int)), (33, .bool (decide (((i : Nat) : Int) < 100))), (65, .pointer (some ⟨g17, 0, none⟩)), (66, .pointer (some ⟨b45, 2, none⟩))] (by kernel_rfl) ?_
          refine OI_cell 3 (.tmp 66) 2 (.int .i64 x43.b) (some 67) (by kernel_rfl) (by kernel_rfl) hb45_50 (m := 1) (by kernel_rfl) rfl ?_
          refine OI_static 4 [(0, .slice (some ⟨b42, o42, none⟩) xs.length cap), (1, .int .i64 at_), (5, .pointer (some ⟨g6, 0, none⟩)), (6, .pointer (some ⟨g17, 0, none⟩)), (7, .int .i64 ((i : Nat) : Int)), (8, .pointer (some ⟨b45, 0, none⟩)), (32, .int .i64 ((i : Nat) : Int)), (33, .bool (decide (((i : Nat) : Int) < 100))), (65, .pointer (some ⟨g17, 0, none⟩)), (67, .int .i64 x43.b), (68, .pointer (some ⟨b45, 1, none⟩))] (by kernel_rfl) ?_
          refine OI_cell 3 (.tmp 68) 1 (.int .i64 x43.a) (some 69) (by kernel_rfl) (by kernel_rfl) hb45_50 (m := 1) (by kernel_rfl) rfl ?_
          refine OI_static 6 [(0, .slice (some ⟨b42, o42, none⟩) xs.length cap), (1, .int .i64 at_), (5, .pointer (some ⟨g6, 0, none⟩)), (6, .pointer (some ⟨g17, 0, none⟩)), (7, .int .i64 ((i : Nat) : Int)), (32, .int .i64 ((i : Nat) : Int)), (33, .bool (decide (((i : Nat) : Int) < 100))), (65, .pointer (some ⟨g17, 0, none⟩)), (67, .int .i64 x43.b), (69, .int .i64 x43.a), (70, .pointer (some ⟨b45, 3, none⟩))] (by kernel_rfl) ?_
          refine OI_cell 3 (.tmp 70) 3 (.int .i64 x43.n) (some 71) (by kernel_rfl) (by kernel_rfl) hb45_50 (m := 1) (by kernel_rfl) rfl ?_
          refine OI_call { callee := (Callee.value (Operand.func 11)), args := #[(Operand.tmp 65), (Operand.tmp 67), (Operand.tmp 69), (Operand.tmp 71)], argTypes := #[22, 3, 3, 3] } 11 #[.pointer (some ⟨g17, 0, none⟩), .int .i64 x43.b, .int .i64 x43.a, .int .i64 x43.n] (some 72) (by kernel_rfl) (by kernel_rfl) (by kernel_rfl) (set_grd F29 g17 (swH xs i) x43.b x43.a x43.n _ ho30 (by omega)) ?_
          rintro _ w96 ⟨rfl, ⟨F98, ho99, hfr100⟩, hk97⟩
          refine ⟨_, rfl, ?_⟩
          have hsz101 := Keep.size hk97
          replace hb45_50 := hb45_50.keep hk97 (fun hs => by have h1 := own31 _ hs; have h2 := lt39 _ hs; omega)
          have hb45lt := hb45_50.lt
          replace hat42 := hat42.keep hk97 (fun hs => by have h1 := own31 _ hs; have h2 := lt39 _ hs; omega)
          have hb42lt := hat42.blk.lt
          replace hK0 := Keep.fresh hK0 hk97 (by intro i hi hs; first | exact hs | (exfalso; have h1 := own31 i hs; have h2 := lt39 i hs; omega) | (have h1 := own31 i hs; have h2 := lt39 i hs; show _ ∨ _; omega)); have hzhK0 := Keep.size hK0
          replace hk36 := Keep.fresh hk36 hk97 (fun i hi hs => by rcases rel32 i hs with h | h; exact .inr h; (exfalso; omega)); have hzhk36 := Keep.size hk36
          replace ho87 := Grd.keep ho87 hk97 (fun q hq hs => (fun q h1 h2 => dis93 q h2 h1) q hs hq)
          have own103 : ∀ q, F98 q → w4.heap.size ≤ q ∧ q ≠ b45 := fun q hq => by rcases hfr100 q hq with h | h; (have h1 := own31 q h; have h2 := lt39 q h; omega); omega
          have lt102 := Grd.lt ho99
          have rel104 : ∀ q, F98 q → F18 q ∨ w15.heap.size ≤ q := fun q hq => by rcases hfr100 q hq with h | h; exact rel32 q h; exact .inr (by omega)
          have dis105 : ∀ q, F98 q → ¬ F86 q := fun q h1 h2 => by rcases hfr100 q h1 with h | h; exact (fun q h1 h2 => dis93 q h2 h1) q h h2; (have h4 := lt90 q h2; omega)
          refine OI_end rfl ?_
          refine X_block ?_
          refine X_then ?_
          refine V_region ?_
          have hw106 : IntKind.i64.wrap (((i : Nat) : Int) + 1) = ((i + 1 : Nat) : Int) := (wrap64_id (by omega) (by omega)).trans (by omega)
          refine OI_static 2 [(0, .slice (some ⟨b42, o42, none⟩) xs.length cap), (1, .int .i64 at_), (5, .pointer (some ⟨g6, 0, none⟩)), (6, .pointer (some ⟨g17, 0, none⟩)), (32, .int .i64 ((i : Nat) : Int)), (33, .bool (decide (((i : Nat) : Int) < 100))), (36, .int .i64 (IntKind.i64.wrap (((i : Nat) : Int) + 1)))] (by kernel_rfl) ?_
          refine OI_eq [(0, .slice (some ⟨b42, o42, none⟩) xs.length cap), (1, .int .i64 at_), (5, .pointer (some ⟨g6, 0, none⟩)), (6, .pointer (some ⟨g17, 0, none⟩)), (32, .int .i64 ((i : Nat) : Int)), (33, .bool (decide (((i : Nat) : Int) < 100))), (36, .int .i64 ((i + 1 : Nat) : Int))] (by rw [hw106]) ?_
          refine OI_static 3 [(0, .slice (some ⟨b42, o42, none⟩) xs.length cap), (1, .int .i64 at_), (5, .pointer (some ⟨g6, 0, none⟩)), (6, .pointer (some ⟨g17, 0, none⟩)), (7, .int .i64 ((i + 1 : Nat) : Int)), (32, .int .i64 ((i : Nat) : Int)), (33, .bool (decide (((i : Nat) : Int) < 100)))] (by kernel_rfl) ?_
          refine OI_end rfl ?_
          rw [(swG_set hx44 hc52).1] at ho87; rw [(swG_set hx44 hc52).2] at ho99
          exact V_again (k35 - 1) (by omega) [(0, .slice (some ⟨b42, o42, none⟩) xs.length cap), (1, .int .i64 at_), (5, .pointer (some ⟨g6, 0, none⟩)), (6, .pointer (some ⟨g17, 0, none⟩)), (7, .int .i64 ((i + 1 : Nat) : Int))] rfl ⟨i + 1, F86, F98, by omega, by omega, ho87, (fun q hq => by have h1 := own91 q hq; have h2 := lt90 q hq; omega), rel92, ho99, (fun q hq => by have h1 := own103 q hq; have h2 := lt102 q hq; omega), rel104, dis105, hk36, rfl⟩
      · skip
        refine V_exit ?_
        refine X_exit_then ?_
        refine X_exit_then ?_
        refine X_exit_here ?_
        refine X_then ?_
        refine V_seq ?_
        refine V_region ?_
        refine OI_static 2 [(1, .int .i64 at_), (5, .pointer (some ⟨g6, 0, none⟩)), (6, .pointer (some ⟨g17, 0, none⟩)), (74, .pointer (some ⟨g6, 0, none⟩)), (75, .int .i64 at_)] (by kernel_rfl) ?_
        refine OI_call { callee := (Callee.value (Operand.func 12)), args := #[(Operand.tmp 74), (Operand.tmp 75)], argTypes := #[22, 3] } 12 #[.pointer (some ⟨g6, 0, none⟩), .int .i64 at_] (some 76) (by kernel_rfl) (by kernel_rfl) (by kernel_rfl) (row_spec _ rfl at_ _) ?_
        rintro _ w107 ⟨bg109, bs110, bn111, rfl, hbg109, hbs110, hbn111, hk108, hgebg109, hgebs110, hgebn111⟩
        refine ⟨_, rfl, ?_⟩
        have hsz112 := Keep.size hk108
        replace hA := ArgT.keep0 hA hk108
        replace hK0 := Keep.tr hK0 (Keep.ofNone hk108); have hzhK0 := Keep.size hK0
        replace ho26 := Grd.keep ho26 hk108 (fun _ _ f => f)
        replace ho30 := Grd.keep ho30 hk108 (fun _ _ f => f)
        have hbg109lt := hbg109.lt
        have hbs110lt := hbs110.lt
        have hbn111lt := hbn111.lt
        refine OI_call { callee := (Callee.value (Operand.func 20)), args := #[(Operand.tmp 76)], argTypes := #[26] } 20 #[.func (.func 47) #[] #[.pointer (some ⟨bg109, 0, none⟩), .pointer (some ⟨bs110, 0, none⟩), .pointer (some ⟨bn111, 0, none⟩)]] (some 77) (by kernel_rfl) (by kernel_rfl) (by kernel_rfl) (told_row F25 g6 (swG xs i) at_ bg109 bs110 bn111 (rowL at_ (swG xs i)) _ rfl ho26 hbg109 hbs110 hbn111 (by omega)) ?_
        rintro _ w113 ⟨Ak115, capk115, Av115, capv115, rfl, hAk115, hAv115, hk114, owAk115, owAv115⟩
        refine ⟨_, rfl, ?_⟩
        have hsz116 := Keep.size hk114
        replace hbg109 := hbg109.keep hk114 (fun f => f)
        have hbg109lt := hbg109.lt
        replace hbs110 := hbs110.keep hk114 (fun f => f)
        have hbs110lt := hbs110.lt
        replace hbn111 := hbn111.keep hk114 (fun f => f)
        have hbn111lt := hbn111.lt
        replace hA := ArgT.keep0 hA hk114
        replace hK0 := Keep.tr hK0 (Keep.ofNone hk114); have hzhK0 := Keep.size hK0
        replace ho26 := Grd.keep ho26 hk114 (fun _ _ f => f)
        replace ho30 := Grd.keep ho30 hk114 (fun _ _ f => f)
        have ltAk115 := SlT.lt hAk115
        have ltAv115 := SlT.lt hAv115
        refine OI_static 11 [(1, .int .i64 at_), (5, .pointer (some ⟨g6, 0, none⟩)), (6, .pointer (some ⟨g17, 0, none⟩)), (9, .slice Ak115 ((rowL at_ (swG xs i)).length) capk115), (10, .slice Av115 ((rowL at_ (swG xs i)).length) capv115), (11, .bool true)] (by kernel_rfl) ?_
        refine OI_end rfl ?_
        refine X_then ?_
        refine V_seq ?_
        refine V_region ?_
        refine OI_static 2 [(5, .pointer (some ⟨g6, 0, none⟩)), (6, .pointer (some ⟨g17, 0, none⟩)), (9, .slice Ak115 ((rowL at_ (swG xs i)).length) capk115), (10, .slice Av115 ((rowL at_ (swG xs i)).length) capv115), (11, .bool true), (82, .pointer (some ⟨g17, 0, none⟩)), (83, .int .i64 at_)] (by kernel_rfl) ?_
        refine OI_call { callee := (Callee.value (Operand.func 13)), args := #[(Operand.tmp 82), (Operand.tmp 83)], argTypes := #[22, 3] } 13 #[.pointer (some ⟨g17, 0, none⟩), .int .i64 at_] (some 84) (by kernel_rfl) (by kernel_rfl) (by kernel_rfl) (column_spec _ rfl at_ _) ?_
        rintro _ w117 ⟨bg119, bs120, bn121, rfl, hbg119, hbs120, hbn121, hk118, hgebg119, hgebs120, hgebn121⟩
        refine ⟨_, rfl, ?_⟩
        have hsz122 := Keep.size hk118
        replace hbg109 := hbg109.keep hk118 (fun f => f)
        have hbg109lt := hbg109.lt
        replace hbs110 := hbs110.keep hk118 (fun f => f)
        have hbs110lt := hbs110.lt
        replace hbn111 := hbn111.keep hk118 (fun f => f)
        have hbn111lt := hbn111.lt
        replace hA := ArgT.keep0 hA hk118
        replace hAk115 := SlT.keep0 hAk115 hk118
        replace hAv115 := SlT.keep0 hAv115 hk118
        replace hK0 := Keep.tr hK0 (Keep.ofNone hk118); have hzhK0 := Keep.size hK0
        replace ho26 := Grd.keep ho26 hk118 (fun _ _ f => f)
        replace ho30 := Grd.keep ho30 hk118 (fun _ _ f => f)
        have hbg119lt := hbg119.lt
        have hbs120lt := hbs120.lt
        have hbn121lt := hbn121.lt
        refine OI_call { callee := (Callee.value (Operand.func 20)), args := #[(Operand.tmp 84)], argTypes := #[26] } 20 #[.func (.func 47) #[] #[.pointer (some ⟨bg119, 0, none⟩), .pointer (some ⟨bs120, 0, none⟩), .pointer (some ⟨bn121, 0, none⟩)]] (some 85) (by kernel_rfl) (by kernel_rfl) (by kernel_rfl) (told_col F29 g17 (swH xs i) at_ bg119 bs120 bn121 (rowL at_ (swG xs i)) _ (hsw.row at_) ho30 hbg119 hbs120 hbn121 (by omega)) ?_
        rintro _ w123 ⟨Ak125, capk125, Av125, capv125, rfl, hAk125, hAv125, hk124, owAk125, owAv125⟩
        refine ⟨_, rfl, ?_⟩
        have hsz126 := Keep.size hk124
        replace hbg109 := hbg109.keep hk124 (fun f => f)
        have hbg109lt := hbg109.lt
        replace hbs110 := hbs110.keep hk124 (fun f => f)
        have hbs110lt := hbs110.lt
        replace hbn111 := hbn111.keep hk124 (fun f => f)
        have hbn111lt := hbn111.lt
        replace hbg119 := hbg119.keep hk124 (fun f => f)
        have hbg119lt := hbg119.lt
        replace hbs120 := hbs120.keep hk124 (fun f => f)
        have hbs120lt := hbs120.lt
        replace hbn121 := hbn121.keep hk124 (fun f => f)
        have hbn121lt := hbn121.lt
        replace hA := ArgT.keep0 hA hk124
        replace hAk115 := SlT.keep0 hAk115 hk124
        replace hAv115 := SlT.keep0 hAv115 hk124
        replace hK0 := Keep.tr hK0 (Keep.ofNone hk124); have hzhK0 := Keep.size hK0
        replace ho26 := Grd.keep ho26 hk124 (fun _ _ f => f)
        replace ho30 := Grd.keep ho30 hk124 (fun _ _ f => f)
        have ltAk125 := SlT.lt hAk125
        have ltAv125 := SlT.lt hAv125
        refine OI_static 11 [(5, .pointer (some ⟨g6, 0, none⟩)), (6, .pointer (some ⟨g17, 0, none⟩)), (9, .slice Ak115 ((rowL at_ (swG xs i)).length) capk115), (10, .slice Av115 ((rowL at_ (swG xs i)).length) capv115), (11, .bool true), (12, .slice Ak125 ((rowL at_ (swG xs i)).length) capk125), (13, .slice Av125 ((rowL at_ (swG xs i)).length) capv125), (14, .bool true)] (by kernel_rfl) ?_
        refine OI_end rfl ?_
        refine X_then ?_
        refine V_seq ?_
        refine V_seq ?_
        refine V_region ?_
        refine OI_static 14 [(5, .pointer (some ⟨g6, 0, none⟩)), (6, .pointer (some ⟨g17, 0, none⟩)), (9, .slice Ak115 ((rowL at_ (swG xs i)).length) capk115), (10, .slice Av115 ((rowL at_ (swG xs i)).length) capv115), (12, .slice Ak125 ((rowL at_ (swG xs i)).length) capk125), (13, .slice Av125 ((rowL at_ (swG xs i)).length) capv125), (102, .bool (!(decide ((((rowL at_ (swG xs i)).length : Nat) : Int) = (((rowL at_ (swG xs i)).length : Nat) : Int)))))] (by kernel_rfl) ?_
        refine OI_eq [(5, .pointer (some ⟨g6, 0, none⟩)), (6, .pointer (some ⟨g17, 0, none⟩)), (9, .slice Ak115 ((rowL at_ (swG xs i)).length) capk115), (10, .slice Av115 ((rowL at_ (swG xs i)).length) capv115), (12, .slice Ak125 ((rowL at_ (swG xs i)).length) capk125), (13, .slice Av125 ((rowL at_ (swG xs i)).length) capv125), (102, .bool false)] (by rw [decide_eq_true (by first | rfl | omega : (((rowL at_ (swG xs i)).length : Nat) : Int) = (((rowL at_ (swG xs i)).length : Nat) : Int))]; rfl) ?_
        refine OI_static 21 [(5, .pointer (some ⟨g6, 0, none⟩)), (6, .pointer (some ⟨g17, 0, none⟩)), (9, .slice Ak115 ((rowL at_ (swG xs i)).length) capk115), (10, .slice Av115 ((rowL at_ (swG xs i)).length) capv115), (12, .slice Ak125 ((rowL at_ (swG xs i)).length) capk125), (13, .slice Av125 ((rowL at_ (swG xs i)).length) capv125), (109, .bool (!(decide ((((rowL at_ (swG xs i)).length : Nat) : Int) = (((rowL at_ (swG xs i)).length : Nat) : Int)))))] (by kernel_rfl) ?_
        refine OI_eq [(5, .pointer (some ⟨g6, 0, none⟩)), (6, .pointer (some ⟨g17, 0, none⟩)), (9, .slice Ak115 ((rowL at_ (swG xs i)).length) capk115), (10, .slice Av115 ((rowL at_ (swG xs i)).length) capv115), (12, .slice Ak125 ((rowL at_ (swG xs i)).length) capk125), (13, .slice Av125 ((rowL at_ (swG xs i)).length) capv125), (109, .bool false)] (by rw [decide_eq_true (by first | rfl | omega : (((rowL at_ (swG xs i)).length : Nat) : Int) = (((rowL at_ (swG xs i)).length : Nat) : Int))]; rfl) ?_
        refine OI_static 22 [(6, .pointer (some ⟨g17, 0, none⟩)), (9, .slice Ak115 ((rowL at_ (swG xs i)).length) capk115), (10, .slice Av115 ((rowL at_ (swG xs i)).length) capv115), (12, .slice Ak125 ((rowL at_ (swG xs i)).length) capk125), (13, .slice Av125 ((rowL at_ (swG xs i)).length) capv125), (109, .bool false), (110, .pointer (some ⟨g6, 0, none⟩))] (by kernel_rfl) ?_
        refine OI_call { callee := (Callee.value (Operand.func 21)), args := #[(Operand.tmp 110)], argTypes := #[22] } 21 #[.pointer (some ⟨g6, 0, none⟩)] (some 111) (by kernel_rfl) (by kernel_rfl) (by kernel_rfl) (len_spec F25 g6 (swG xs i) _ (Grd.gr ho26)) ?_
        rintro _ w123 ⟨rfl, rfl⟩
        refine ⟨_, rfl, ?_⟩
        refine OI_static 24 [(9, .slice Ak115 ((rowL at_ (swG xs i)).length) capk115), (10, .slice Av115 ((rowL at_ (swG xs i)).length) capv115), (12, .slice Ak125 ((rowL at_ (swG xs i)).length) capk125), (13, .slice Av125 ((rowL at_ (swG xs i)).length) capv125), (109, .bool false), (111, .int .i64 (((swG xs i).length : Nat) : Int)), (112, .pointer (some ⟨g17, 0, none⟩))] (by kernel_rfl) ?_
        refine OI_call { callee := (Callee.value (Operand.func 21)), args := #[(Operand.tmp 112)], argTypes := #[22] } 21 #[.pointer (some ⟨g17, 0, none⟩)] (some 113) (by kernel_rfl) (by kernel_rfl) (by kernel_rfl) (len_spec F29 g17 (swH xs i) _ (Grd.gr ho30)) ?_
        rintro _ w123 ⟨rfl, rfl⟩
        refine ⟨_, rfl, ?_⟩
        refine OI_static 27 [(9, .slice Ak115 ((rowL at_ (swG xs i)).length) capk115), (10, .slice Av115 ((rowL at_ (swG xs i)).length) capv115), (12, .slice Ak125 ((rowL at_ (swG xs i)).length) capk125), (13, .slice Av125 ((rowL at_ (swG xs i)).length) capv125), (115, .bool (!(decide ((((swG xs i).length : Nat) : Int) = (((swH xs i).length : Nat) : Int)))))] (by kernel_rfl) ?_
        refine OI_end rfl ?_
        refine X_then ?_
        refine V_eq [(9, .slice Ak115 ((rowL at_ (swG xs i)).length) capk115), (10, .slice Av115 ((rowL at_ (swG xs i)).length) capv115), (12, .slice Ak125 ((rowL at_ (swG xs i)).length) capk125), (13, .slice Av125 ((rowL at_ (swG xs i)).length) capv125), (115, .bool false)] (by rw [decide_eq_true (by first | rfl | omega : (((swG xs i).length : Nat) : Int) = (((swH xs i).length : Nat) : Int))]; rfl) ?_
        refine V_false rfl ?_
        refine V_skip ?_
        refine X_then ?_
        refine V_seq ?_
        refine V_seq ?_
        refine V_region ?_
        refine OI_static 1 [(9, .slice Ak115 ((rowL at_ (swG xs i)).length) capk115), (10, .slice Av115 ((rowL at_ (swG xs i)).length) capv115), (12, .slice Ak125 ((rowL at_ (swG xs i)).length) capk125), (13, .slice Av125 ((rowL at_ (swG xs i)).length) capv125), (15, .int .i64 0)] (by kernel_rfl) ?_
        refine OI_end rfl ?_
        refine X_then ?_
        refine V_block ?_
        have hrl : (rowL at_ (swG xs i)).length ≤ (swG xs i).length := by unfold rowL; rw [List.length_map]; exact List.length_filter_le _ _
        refine V_pick [(9, .slice Ak115 ((rowL at_ (swG xs i)).length) capk115), (10, .slice Av115 ((rowL at_ (swG xs i)).length) capv115), (12, .slice Ak125 ((rowL at_ (swG xs i)).length) capk125), (13, .slice Av125 ((rowL at_ (swG xs i)).length) capv125), (15, .int .i64 0)] rfl ?_
        refine V_loop (fun k wI e => ∃ q : Nat, (k + q = (rowL at_ (swG xs i)).length) ∧ Keep none_ w123 wI ∧ e = [(9, .slice Ak115 ((rowL at_ (swG xs i)).length) capk115), (10, .slice Av115 ((rowL at_ (swG xs i)).length) capv115), (12, .slice Ak125 ((rowL at_ (swG xs i)).length) capk125), (13, .slice Av125 ((rowL at_ (swG xs i)).length) capv125), (15, .int .i64 ((q : Nat) : Int))]) ((rowL at_ (swG xs i)).length) ⟨0, by omega, Keep.refl _ _, rfl⟩ ?_
        rintro k137 w136 _ ⟨q, hkq, hk138, rfl⟩
        have hsz139 := Keep.size hk138
        replace hbg109 := hbg109.keep hk138 (fun f => f)
        have hbg109lt := hbg109.lt
        replace hbs110 := hbs110.keep hk138 (fun f => f)
        have hbs110lt := hbs110.lt
        replace hbn111 := hbn111.keep hk138 (fun f => f)
        have hbn111lt := hbn111.lt
        replace hbg119 := hbg119.keep hk138 (fun f => f)
        have hbg119lt := hbg119.lt
        replace hbs120 := hbs120.keep hk138 (fun f => f)
        have hbs120lt := hbs120.lt
        replace hbn121 := hbn121.keep hk138 (fun f => f)
        have hbn121lt := hbn121.lt
        replace hA := ArgT.keep0 hA hk138
        replace hAk115 := SlT.keep0 hAk115 hk138
        replace hAv115 := SlT.keep0 hAv115 hk138
        replace hAk125 := SlT.keep0 hAk125 hk138
        replace hAv125 := SlT.keep0 hAv125 hk138
        replace hK0 := Keep.tr hK0 (Keep.ofNone hk138); have hzhK0 := Keep.size hK0
        replace ho26 := Grd.keep ho26 hk138 (fun _ _ f => f)
        replace ho30 := Grd.keep ho30 hk138 (fun _ _ f => f)
        have hzhk138 := Keep.size hk138
        refine V_seq ?_
        refine V_seq ?_
        refine V_region ?_
        refine OI_static 4 [(9, .slice Ak115 ((rowL at_ (swG xs i)).length) capk115), (10, .slice Av115 ((rowL at_ (swG xs i)).length) capv115), (12, .slice Ak125 ((rowL at_ (swG xs i)).length) capk125), (13, .slice Av125 ((rowL at_ (swG xs i)).length) capv125), (15, .int .i64 ((q : Nat) : Int)), (119, .bool (decide (((q : Nat) : Int) < (((rowL at_ (swG xs i)).length : Nat) : Int))))] (by kernel_rfl) ?_
        refine OI_end rfl ?_
        refine X_then ?_
        refine V_if (((q : Nat) : Int) < (((rowL at_ (swG xs i)).length : Nat) : Int)) (by kernel_rfl) (fun hc140 => ?_) (fun hc140 => ?_)
        · skip
          refine V_skip ?_
          refine X_then ?_
          refine V_seq ?_
          refine V_block ?_
          refine V_seq ?_
          refine V_draws (acts []) none_ [[0, 1, 2, 3, 4, 5, 6, 7, 8, 9, 10, 11, 12, 13, 14, 15, 16, 17, 18, 19]] (by kernel_rfl) (by repeat first | exact sure_body (by rintro _ _ ⟨h, _⟩; exact ⟨_, h⟩) | refine sure_then ?_ | refine sure_block ?_ | refine sure_join ?_) (by kernel_rfl) ?_
          intro w142 hk141 he143 L hL144
          have hsz145 := Keep.size hk141
          replace hbg109 := hbg109.keep hk141 (fun f => f)
          have hbg109lt := hbg109.lt
          replace hbs110 := hbs110.keep hk141 (fun f => f)
          have hbs110lt := hbs110.lt
          replace hbn111 := hbn111.keep hk141 (fun f => f)
          have hbn111lt := hbn111.lt
          replace hbg119 := hbg119.keep hk141 (fun f => f)
          have hbg119lt := hbg119.lt
          replace hbs120 := hbs120.keep hk141 (fun f => f)
          have hbs120lt := hbs120.lt
          replace hbn121 := hbn121.keep hk141 (fun f => f)
          have hbn121lt := hbn121.lt
          replace hA := ArgT.keep0 hA hk141
          replace hAk115 := SlT.keep0 hAk115 hk141
          replace hAv115 := SlT.keep0 hAv115 hk141
          replace hAk125 := SlT.keep0 hAk125 hk141
          replace hAv125 := SlT.keep0 hAv125 hk141
          replace hK0 := Keep.tr hK0 (Keep.ofNone hk141); have hzhK0 := Keep.size hK0
          replace ho26 := Grd.keep ho26 hk141 (fun _ _ f => f)
          replace ho30 := Grd.keep ho30 hk141 (fun _ _ f => f)
          replace hk138 := Keep.tr hk138 (Keep.ofNone hk141); have hzhk138 := Keep.size hk138
          have qhbg109 := hbg109
          have qhbs110 := hbs110
          have qhbn111 := hbn111
          have qhbg119 := hbg119
          have qhbs120 := hbs120
          have qhbn121 := hbn121
          have K146 : Keep none_ w142 w142 := Keep.refl _ _
          obtain rfl := List.mem_singleton.1 hL144
          refine GI_static [2, 3, 4, 5, 6, 7, 8, 9, 10, 11, 12, 13, 14, 15, 16, 17, 18, 19] [(9, .slice Ak115 ((rowL at_ (swG xs i)).length) capk115), (10, .slice Av115 ((rowL at_ (swG xs i)).length) capv115), (12, .slice Ak125 ((rowL at_ (swG xs i)).length) capk125), (13, .slice Av125 ((rowL at_ (swG xs i)).length) capv125), (15, .int .i64 ((q : Nat) : Int)), (122, .slice Ak115 ((rowL at_ (swG xs i)).length) capk115), (123, .int .i64 ((q : Nat) : Int))] (by kernel_rfl) ?_
          obtain ⟨b147, o147, L147, T147, rfl, hat147⟩ := SlT.open_ hAk115 (by first | omega | (simp only [List.length_map]; omega) | (simp; done) | (simp; omega))
          have hb147lt := hat147.blk.lt
          have hob148 := owAk115 b147 ⟨_, rfl, rfl⟩
          have hob149 := ltAk115 b147 ⟨_, rfl, rfl⟩
          refine GI_pure (some 124) (.indexAddr 30 (.tmp 122) (.tmp 123)) (by kernel_rfl) (by kernel_rfl) (pure_idxN (b := b147) (o := o147) (len := (rowL at_ (swG xs i)).length) (cap := capk115) (kd := .i64) (j := q) (E := 3) (sz := 1) (by_ := 8) (by kernel_rfl) (by kernel_rfl) (by kernel_rfl) (by omega)) ?_
          obtain ⟨x150, hx151⟩ : ∃ x, ((rowL at_ (swG xs i)).map (·.1))[q]? = some x := ⟨_, List.getElem?_eq_getElem (by first | omega | (simp only [List.length_map]; omega))⟩
          refine GI_cell 3 (.tmp 124) (o147 + q * 1) (.int .i64 x150) (some 125) (by kernel_rfl) (by kernel_rfl) (by kernel_rfl) hat147.blk (fun f => f) (m := 1) (by kernel_rfl) (At.cell0 hat147 (es_at hx151) rfl) ?_
          refine GI_static [6, 7, 8, 9, 10, 11, 12, 13, 14, 15, 16, 17, 18, 19] [(9, .slice (some ⟨b147, o147, none⟩) ((rowL at_ (swG xs i)).length) capk115), (10, .slice Av115 ((rowL at_ (swG xs i)).length) capv115), (12, .slice Ak125 ((rowL at_ (swG xs i)).length) capk125), (13, .slice Av125 ((rowL at_ (swG xs i)).length) capv125), (15, .int .i64 ((q : Nat) : Int)), (125, .int .i64 x150), (126, .slice Ak125 ((rowL at_ (swG xs i)).length) capk125), (127, .int .i64 ((q : Nat) : Int))] (by kernel_rfl) ?_
          obtain ⟨b152, o152, L152, T152, rfl, hat152⟩ := SlT.open_ hAk125 (by first | omega | (simp only [List.length_map]; omega) | (simp; done) | (simp; omega))
          have hb152lt := hat152.blk.lt
          have hob153 := owAk125 b152 ⟨_, rfl, rfl⟩
          have hob154 := ltAk125 b152 ⟨_, rfl, rfl⟩
          refine GI_pure (some 128) (.indexAddr 30 (.tmp 126) (.tmp 127)) (by kernel_rfl) (by kernel_rfl) (pure_idxN (b := b152) (o := o152) (len := (rowL at_ (swG xs i)).length) (cap := capk125) (kd := .i64) (j := q) (E := 3) (sz := 1) (by_ := 8) (by kernel_rfl) (by kernel_rfl) (by kernel_rfl) (by omega)) ?_
          refine GI_cell 3 (.tmp 128) (o152 + q * 1) (.int .i64 x150) (some 129) (by kernel_rfl) (by kernel_rfl) (by kernel_rfl) hat152.blk (fun f => f) (m := 1) (by kernel_rfl) (At.cell0 hat152 (es_at hx151) rfl) ?_
          refine GI_static [10, 11, 12, 13, 14, 15, 16, 17, 18, 19] [(9, .slice (some ⟨b147, o147, none⟩) ((rowL at_ (swG xs i)).length) capk115), (10, .slice Av115 ((rowL at_ (swG xs i)).length) capv115), (12, .slice (some ⟨b152, o152, none⟩) ((rowL at_ (swG xs i)).length) capk125), (13, .slice Av125 ((rowL at_ (swG xs i)).length) capv125), (15, .int .i64 ((q : Nat) : Int)), (131, .bool (!(decide (x150 = x150))))] (by kernel_rfl) ?_
          refine GI_eq [(9, .slice (some ⟨b147, o147, none⟩) ((rowL at_ (swG xs i)).length) capk115), (10, .slice Av115 ((rowL at_ (swG xs i)).length) capv115), (12, .slice (some ⟨b152, o152, none⟩) ((rowL at_ (swG xs i)).length) capk125), (13, .slice Av125 ((rowL at_ (swG xs i)).length) capv125), (15, .int .i64 ((q : Nat) : Int)), (131, .bool false)] (by rw [decide_eq_true (by first | rfl | omega : x150 = x150)]; rfl) ?_
          refine GI_static [12, 13, 14, 15, 16, 17, 18, 19] [(9, .slice (some ⟨b147, o147, none⟩) ((rowL at_ (swG xs i)).length) capk115), (10, .slice Av115 ((rowL at_ (swG xs i)).length) capv115), (12, .slice (some ⟨b152, o152, none⟩) ((rowL at_ (swG xs i)).length) capk125), (13, .slice Av125 ((rowL at_ (swG xs i)).length) capv125), (15, .int .i64 ((q : Nat) : Int)), (131, .bool false), (132, .slice Av115 ((rowL at_ (swG xs i)).length) capv115), (133, .int .i64 ((q : Nat) : Int))] (by kernel_rfl) ?_
          obtain ⟨b156, o156, L156, T156, rfl, hat156⟩ := SlT.open_ hAv115 (by first | omega | (simp only [List.length_map]; omega) | (simp; done) | (simp; omega))
          have hb156lt := hat156.blk.lt
          have hob157 := owAv115 b156 ⟨_, rfl, rfl⟩
          have hob158 := ltAv115 b156 ⟨_, rfl, rfl⟩
          refine GI_pure (some 134) (.indexAddr 30 (.tmp 132) (.tmp 133)) (by kernel_rfl) (by kernel_rfl) (pure_idxN (b := b156) (o := o156) (len := (rowL at_ (swG xs i)).length) (cap := capv115) (kd := .i64) (j := q) (E := 3) (sz := 1) (by_ := 8) (by kernel_rfl) (by kernel_rfl) (by kernel_rfl) (by omega)) ?_
          obtain ⟨x159, hx160⟩ : ∃ x, ((rowL at_ (swG xs i)).map (·.2))[q]? = some x := ⟨_, List.getElem?_eq_getElem (by first | omega | (simp only [List.length_map]; omega))⟩
          refine GI_cell 3 (.tmp 134) (o156 + q * 1) (.int .i64 x159) (some 135) (by kernel_rfl) (by kernel_rfl) (by kernel_rfl) hat156.blk (fun f => f) (m := 1) (by kernel_rfl) (At.cell0 hat156 (es_at hx160) rfl) ?_
          refine GI_static [16, 17, 18, 19] [(9, .slice (some ⟨b147, o147, none⟩) ((rowL at_ (swG xs i)).length) capk115), (10, .slice (some ⟨b156, o156, none⟩) ((rowL at_ (swG xs i)).length) capv115), (12, .slice (some ⟨b152, o152, none⟩) ((rowL at_ (swG xs i)).length) capk125), (13, .slice Av125 ((rowL at_ (swG xs i)).length) capv125), (15, .int .i64 ((q : Nat) : Int)), (131, .bool false), (132, .slice (some ⟨b156, o156, none⟩) ((rowL at_ (swG xs i)).length) capv115), (133, .int .i64 ((q : Nat) : Int)), (134, .pointer (some ⟨b156, o156 + q * 1, none⟩)), (135, .int .i64 x159), (136, .slice Av125 ((rowL at_ (swG xs i)).length) capv125), (137, .int .i64 ((q : Nat) : Int))] (by kernel_rfl) ?_
          obtain ⟨b161, o161, L161, T161, rfl, hat161⟩ := SlT.open_ hAv125 (by first | omega | (simp only [List.length_map]; omega) | (simp; done) | (simp; omega))
          have hb161lt := hat161.blk.lt
          have hob162 := owAv125 b161 ⟨_, rfl, rfl⟩
          have hob163 := ltAv125 b161 ⟨_, rfl, rfl⟩
          refine GI_pure (some 138) (.indexAddr 30 (.tmp 136) (.tmp 137)) (by kernel_rfl) (by kernel_rfl) (pure_idxN (b := b161) (o := o161) (len := (rowL at_ (swG xs i)).length) (cap := capv125) (kd := .i64) (j := q) (E := 3) (sz := 1) (by_ := 8) (by kernel_rfl) (by kernel_rfl) (by kernel_rfl) (by omega)) ?_
          refine GI_cell 3 (.tmp 138) (o161 + q * 1) (.int .i64 x159) (some 139) (by kernel_rfl) (by kernel_rfl) (by kernel_rfl) hat161.blk (fun f => f) (m := 1) (by kernel_rfl) (At.cell0 hat161 (es_at hx160) rfl) ?_
          refine GI_static [] [(9, .slice (some ⟨b147, o147, none⟩) ((rowL at_ (swG xs i)).length) capk115), (10, .slice (some ⟨b156, o156, none⟩) ((rowL at_ (swG xs i)).length) capv115), (12, .slice (some ⟨b152, o152, none⟩) ((rowL at_ (swG xs i)).length) capk125), (13, .slice (some ⟨b161, o161, none⟩) ((rowL at_ (swG xs i)).length) capv125), (15, .int .i64 ((q : Nat) : Int)), (132, .slice (some ⟨b156, o156, none⟩) ((rowL at_ (swG xs i)).length) capv115), (133, .int .i64 ((q : Nat) : Int)), (134, .pointer (some ⟨b156, o156 + q * 1, none⟩)), (135, .int .i64 x159), (136, .slice (some ⟨b161, o161, none⟩) ((rowL at_ (swG xs i)).length) capv125), (137, .int .i64 ((q : Nat) : Int)), (138, .pointer (some ⟨b161, o161 + q * 1, none⟩)), (139, .int .i64 x159), (140, .bool (!(decide (x159 = x159)))), (141, .bool (!(decide (x159 = x159))))] (by kernel_rfl) ?_
          refine GI_end ?_
          refine X_then ?_
          refine V_eq [(9, .slice (some ⟨b147, o147, none⟩) ((rowL at_ (swG xs i)).length) capk115), (10, .slice (some ⟨b156, o156, none⟩) ((rowL at_ (swG xs i)).length) capv115), (12, .slice (some ⟨b152, o152, none⟩) ((rowL at_ (swG xs i)).length) capk125), (13, .slice (some ⟨b161, o161, none⟩) ((rowL at_ (swG xs i)).length) capv125), (15, .int .i64 ((q : Nat) : Int)), (132, .slice (some ⟨b156, o156, none⟩) ((rowL at_ (swG xs i)).length) capv115), (133, .int .i64 ((q : Nat) : Int)), (134, .pointer (some ⟨b156, o156 + q * 1, none⟩)), (135, .int .i64 x159), (136, .slice (some ⟨b161, o161, none⟩) ((rowL at_ (swG xs i)).length) capv125), (137, .int .i64 ((q : Nat) : Int)), (138, .pointer (some ⟨b161, o161 + q * 1, none⟩)), (139, .int .i64 x159), (140, .bool (!(decide (x159 = x159)))), (141, .bool false)] (by rw [decide_eq_true (by first | rfl | omega : x159 = x159)]; rfl) ?_
          refine V_false rfl ?_
          refine V_skip ?_
          refine X_block ?_
          refine X_then ?_
          refine V_region ?_
          have hw165 : IntKind.i64.wrap (((q : Nat) : Int) + 1) = ((q + 1 : Nat) : Int) := (wrap64_id (by omega) (by omega)).trans (by omega)
          refine OI_static 2 [(9, .slice (some ⟨b147, o147, none⟩) ((rowL at_ (swG xs i)).length) capk115), (10, .slice (some ⟨b156, o156, none⟩) ((rowL at_ (swG xs i)).length) capv115), (12, .slice (some ⟨b152, o152, none⟩) ((rowL at_ (swG xs i)).length) capk125), (13, .slice (some ⟨b161, o161, none⟩) ((rowL at_ (swG xs i)).length) capv125), (121, .int .i64 (IntKind.i64.wrap (((q : Nat) : Int) + 1))), (132, .slice (some ⟨b156, o156, none⟩) ((rowL at_ (swG xs i)).length) capv115), (133, .int .i64 ((q : Nat) : Int)), (134, .pointer (some ⟨b156, o156 + q * 1, none⟩)), (135, .int .i64 x159), (136, .slice (some ⟨b161, o161, none⟩) ((rowL at_ (swG xs i)).length) capv125), (137, .int .i64 ((q : Nat) : Int)), (138, .pointer (some ⟨b161, o161 + q * 1, none⟩)), (139, .int .i64 x159), (140, .bool (!(decide (x159 = x159))))] (by kernel_rfl) ?_
          refine OI_eq [(9, .slice (some ⟨b147, o147, none⟩) ((rowL at_ (swG xs i)).length) capk115), (10, .slice (some ⟨b156, o156, none⟩) ((rowL at_ (swG xs i)).length) capv115), (12, .slice (some ⟨b152, o152, none⟩) ((rowL at_ (swG xs i)).length) capk125), (13, .slice (some ⟨b161, o161, none⟩) ((rowL at_ (swG xs i)).length) capv125), (121, .int .i64 ((q + 1 : Nat) : Int)), (132, .slice (some ⟨b156, o156, none⟩) ((rowL at_ (swG xs i)).length) capv115), (133, .int .i64 ((q : Nat) : Int)), (134, .pointer (some ⟨b156, o156 + q * 1, none⟩)), (135, .int .i64 x159), (136, .slice (some ⟨b161, o161, none⟩) ((rowL at_ (swG xs i)).length) capv125), (137, .int .i64 ((q : Nat) : Int)), (138, .pointer (some ⟨b161, o161 + q * 1, none⟩)), (139, .int .i64 x159), (140, .bool (!(decide (x159 = x159))))] (by rw [hw165]) ?_
          refine OI_static 3 [(9, .slice (some ⟨b147, o147, none⟩) ((rowL at_ (swG xs i)).length) capk115), (10, .slice (some ⟨b156, o156, none⟩) ((rowL at_ (swG xs i)).length) capv115), (12, .slice (some ⟨b152, o152, none⟩) ((rowL at_ (swG xs i)).length) capk125), (13, .slice (some ⟨b161, o161, none⟩) ((rowL at_ (swG xs i)).length) capv125), (15, .int .i64 ((q + 1 : Nat) : Int)), (132, .slice (some ⟨b156, o156, none⟩) ((rowL at_ (swG xs i)).length) capv115), (133, .int .i64 ((q : Nat) : Int)), (134, .pointer (some ⟨b156, o156 + q * 1, none⟩)), (135, .int .i64 x159), (136, .slice (some ⟨b161, o161, none⟩) ((rowL at_ (swG xs i)).length) capv125), (137, .int .i64 ((q : Nat) : Int)), (138, .pointer (some ⟨b161, o161 + q * 1, none⟩)), (139, .int .i64 x159), (140, .bool (!(decide (x159 = x159))))] (by kernel_rfl) ?_
          refine OI_end rfl ?_
          exact V_again (k137 - 1) (by omega) [(9, .slice (some ⟨b147, o147, none⟩) ((rowL at_ (swG xs i)).length) capk115), (10, .slice (some ⟨b156, o156, none⟩) ((rowL at_ (swG xs i)).length) capv115), (12, .slice (some ⟨b152, o152, none⟩) ((rowL at_ (swG xs i)).length) capk125), (13, .slice (some ⟨b161, o161, none⟩) ((rowL at_ (swG xs i)).length) capv125), (15, .int .i64 ((q + 1 : Nat) : Int))] rfl ⟨q + 1, by omega, hk138, rfl⟩
        · skip
          refine V_exit ?_
          refine X_exit_then ?_
          refine X_exit_then ?_
          refine X_exit_here ?_
          refine X_then ?_
          refine V_seq ?_
          refine V_region ?_
          refine OI_call { callee := (Callee.value (Operand.func 14)), args := #[], argTypes := #[] } 14 #[] (some 142) (by kernel_rfl) (by kernel_rfl) (by kernel_rfl) (known_spec _) ?_
          rintro _ w166 ⟨rfl, hk167⟩
          refine ⟨_, rfl, ?_⟩
          have hsz168 := Keep.size hk167
          replace hbg109 := hbg109.keep hk167 (fun f => f)
          have hbg109lt := hbg109.lt
          replace hbs110 := hbs110.keep hk167 (fun f => f)
          have hbs110lt := hbs110.lt
          replace hbn111 := hbn111.keep hk167 (fun f => f)
          have hbn111lt := hbn111.lt
          replace hbg119 := hbg119.keep hk167 (fun f => f)
          have hbg119lt := hbg119.lt
          replace hbs120 := hbs120.keep hk167 (fun f => f)
          have hbs120lt := hbs120.lt
          replace hbn121 := hbn121.keep hk167 (fun f => f)
          have hbn121lt := hbn121.lt
          replace hA := ArgT.keep0 hA hk167
          replace hAk115 := SlT.keep0 hAk115 hk167
          replace hAv115 := SlT.keep0 hAv115 hk167
          replace hAk125 := SlT.keep0 hAk125 hk167
          replace hAv125 := SlT.keep0 hAv125 hk167
          replace hK0 := Keep.tr hK0 (Keep.ofNone hk167); have hzhK0 := Keep.size hK0
          replace ho26 := Grd.keep ho26 hk167 (fun _ _ f => f)
          replace ho30 := Grd.keep ho30 hk167 (fun _ _ f => f)
          refine OI_static 2 [(4, .bool true)] (by kernel_rfl) ?_
          refine OI_end rfl ?_
          refine X_then ?_
          refine V_ret ?_
          exact X_return (.bool true) rfl ⟨rfl, hK0⟩
    · skip
      refine OI_eq [(0, .slice A xs.length cap), (1, .int .i64 at_), (5, .pointer (some ⟨g6, 0, none⟩)), (6, .pointer (some ⟨g17, 0, none⟩)), (7, .int .i64 ((i : Nat) : Int)), (31, .bool false)] (by first | simp [hg40] | rfl) ?_
      refine OI_static 8 [(0, .slice A xs.length cap), (1, .int .i64 at_), (5, .pointer (some ⟨g6, 0, none⟩)), (6, .pointer (some ⟨g17, 0, none⟩)), (7, .int .i64 ((i : Nat) : Int)), (32, undef), (33, undef), (34, .bool false)] (by kernel_rfl) ?_
      refine OI_end rfl ?_
      refine X_then ?_
      refine V_false rfl ?_
      refine V_exit ?_
      refine X_exit_then ?_
      refine X_exit_then ?_
      refine X_exit_here ?_
      refine X_then ?_
      refine V_seq ?_
      refine V_region ?_
      refine OI_static 2 [(1, .int .i64 at_), (5, .pointer (some ⟨g6, 0, none⟩)), (6, .pointer (some ⟨g17, 0, none⟩)), (74, .pointer (some ⟨g6, 0, none⟩)), (75, .int .i64 at_)] (by kernel_rfl) ?_
      refine OI_call { callee := (Callee.value (Operand.func 12)), args := #[(Operand.tmp 74), (Operand.tmp 75)], argTypes := #[22, 3] } 12 #[.pointer (some ⟨g6, 0, none⟩), .int .i64 at_] (some 76) (by kernel_rfl) (by kernel_rfl) (by kernel_rfl) (row_spec _ rfl at_ _) ?_
      rintro _ w169 ⟨bg171, bs172, bn173, rfl, hbg171, hbs172, hbn173, hk170, hgebg171, hgebs172, hgebn173⟩
      refine ⟨_, rfl, ?_⟩
      have hsz174 := Keep.size hk170
      replace hA := ArgT.keep0 hA hk170
      replace hK0 := Keep.tr hK0 (Keep.ofNone hk170); have hzhK0 := Keep.size hK0
      replace ho26 := Grd.keep ho26 hk170 (fun _ _ f => f)
      replace ho30 := Grd.keep ho30 hk170 (fun _ _ f => f)
      have hbg171lt := hbg171.lt
      have hbs172lt := hbs172.lt
      have hbn173lt := hbn173.lt
      refine OI_call { callee := (Callee.value (Operand.func 20)), args := #[(Operand.tmp 76)], argTypes := #[26] } 20 #[.func (.func 47) #[] #[.pointer (some ⟨bg171, 0, none⟩), .pointer (some ⟨bs172, 0, none⟩), .pointer (some ⟨bn173, 0, none⟩)]] (some 77) (by kernel_rfl) (by kernel_rfl) (by kernel_rfl) (told_row F25 g6 (swG xs i) at_ bg171 bs172 bn173 (rowL at_ (swG xs i)) _ rfl ho26 hbg171 hbs172 hbn173 (by omega)) ?_
      rintro _ w175 ⟨Ak177, capk177, Av177, capv177, rfl, hAk177, hAv177, hk176, owAk177, owAv177⟩
      refine ⟨_, rfl, ?_⟩
      have hsz178 := Keep.size hk176
      replace hbg171 := hbg171.keep hk176 (fun f => f)
      have hbg171lt := hbg171.lt
      replace hbs172 := hbs172.keep hk176 (fun f => f)
      have hbs172lt := hbs172.lt
      replace hbn173 := hbn173.keep hk176 (fun f => f)
      have hbn173lt := hbn173.lt
      replace hA := ArgT.keep0 hA hk176
      replace hK0 := Keep.tr hK0 (Keep.ofNone hk176); have hzhK0 := Keep.size hK0
      replace ho26 := Grd.keep ho26 hk176 (fun _ _ f => f)
      replace ho30 := Grd.keep ho30 hk176 (fun _ _ f => f)
      have ltAk177 := SlT.lt hAk177
      have ltAv177 := SlT.lt hAv177
      refine OI_static 11 [(1, .int .i64 at_), (5, .pointer (some ⟨g6, 0, none⟩)), (6, .pointer (some ⟨g17, 0, none⟩)), (9, .slice Ak177 ((rowL at_ (swG xs i)).length) capk177), (10, .slice Av177 ((rowL at_ (swG xs i)).length) capv177), (11, .bool true)] (by kernel_rfl) ?_
      refine OI_end rfl ?_
      refine X_then ?_
      refine V_seq ?_
      refine V_region ?_
      refine OI_static 2 [(5, .pointer (some ⟨g6, 0, none⟩)), (6, .pointer (some ⟨g17, 0, none⟩)), (9, .slice Ak177 ((rowL at_ (swG xs i)).length) capk177), (10, .slice Av177 ((rowL at_ (swG xs i)).length) capv177), (11, .bool true), (82, .pointer (some ⟨g17, 0, none⟩)), (83, .int .i64 at_)] (by kernel_rfl) ?_
      refine OI_call { callee := (Callee.value (Operand.func 13)), args := #[(Operand.tmp 82), (Operand.tmp 83)], argTypes := #[22, 3] } 13 #[.pointer (some ⟨g17, 0, none⟩), .int .i64 at_] (some 84) (by kernel_rfl) (by kernel_rfl) (by kernel_rfl) (column_spec _ rfl at_ _) ?_
      rintro _ w179 ⟨bg181, bs182, bn183, rfl, hbg181, hbs182, hbn183, hk180, hgebg181, hgebs182, hgebn183⟩
      refine ⟨_, rfl, ?_⟩
      have hsz184 := Keep.size hk180
      replace hbg171 := hbg171.keep hk180 (fun f => f)
      have hbg171lt := hbg171.lt
      replace hbs172 := hbs172.keep hk180 (fun f => f)
      have hbs172lt := hbs172.lt
      replace hbn173 := hbn173.keep hk180 (fun f => f)
      have hbn173lt := hbn173.lt
      replace hA := ArgT.keep0 hA hk180
      replace hAk177 := SlT.keep0 hAk177 hk180
      replace hAv177 := SlT.keep0 hAv177 hk180
      replace hK0 := Keep.tr hK0 (Keep.ofNone hk180); have hzhK0 := Keep.size hK0
      replace ho26 := Grd.keep ho26 hk180 (fun _ _ f => f)
      replace ho30 := Grd.keep ho30 hk180 (fun _ _ f => f)
      have hbg181lt := hbg181.lt
      have hbs182lt := hbs182.lt
      have hbn183lt := hbn183.lt
      refine OI_call { callee := (Callee.value (Operand.func 20)), args := #[(Operand.tmp 84)], argTypes := #[26] } 20 #[.func (.func 47) #[] #[.pointer (some ⟨bg181, 0, none⟩), .pointer (some ⟨bs182, 0, none⟩), .pointer (some ⟨bn183, 0, none⟩)]] (some 85) (by kernel_rfl) (by kernel_rfl) (by kernel_rfl) (told_col F29 g17 (swH xs i) at_ bg181 bs182 bn183 (rowL at_ (swG xs i)) _ (hsw.row at_) ho30 hbg181 hbs182 hbn183 (by omega)) ?_
      rintro _ w185 ⟨Ak187, capk187, Av187, capv187, rfl, hAk187, hAv187, hk186, owAk187, owAv187⟩
      refine ⟨_, rfl, ?_⟩
      have hsz188 := Keep.size hk186
      replace hbg171 := hbg171.keep hk186 (fun f => f)
      have hbg171lt := hbg171.lt
      replace hbs172 := hbs172.keep hk186 (fun f => f)
      have hbs172lt := hbs172.lt
      replace hbn173 := hbn173.keep hk186 (fun f => f)
      have hbn173lt := hbn173.lt
      replace hbg181 := hbg181.keep hk186 (fun f => f)
      have hbg181lt := hbg181.lt
      replace hbs182 := hbs182.keep hk186 (fun f => f)
      have hbs182lt := hbs182.lt
      replace hbn183 := hbn183.keep hk186 (fun f => f)
      have hbn183lt := hbn183.lt
      replace hA := ArgT.keep0 hA hk186
      replace hAk177 := SlT.keep0 hAk177 hk186
      replace hAv177 := SlT.keep0 hAv177 hk186
      replace hK0 := Keep.tr hK0 (Keep.ofNone hk186); have hzhK0 := Keep.size hK0
      replace ho26 := Grd.keep ho26 hk186 (fun _ _ f => f)
      replace ho30 := Grd.keep ho30 hk186 (fun _ _ f => f)
      have ltAk187 := SlT.lt hAk187
      have ltAv187 := SlT.lt hAv187
      refine OI_static 11 [(5, .pointer (some ⟨g6, 0, none⟩)), (6, .pointer (some ⟨g17, 0, none⟩)), (9, .slice Ak177 ((rowL at_ (swG xs i)).length) capk177), (10, .slice Av177 ((rowL at_ (swG xs i)).length) capv177), (11, .bool true), (12, .slice Ak187 ((rowL at_ (swG xs i)).length) capk187), (13, .slice Av187 ((rowL at_ (swG xs i)).length) capv187), (14, .bool true)] (by kernel_rfl) ?_
      refine OI_end rfl ?_
      refine X_then ?_
      refine V_seq ?_
      refine V_seq ?_
      refine V_region ?_
      refine OI_static 14 [(5, .pointer (some ⟨g6, 0, none⟩)), (6, .pointer (some ⟨g17, 0, none⟩)), (9, .slice Ak177 ((rowL at_ (swG xs i)).length) capk177), (10, .slice Av177 ((rowL at_ (swG xs i)).length) capv177), (12, .slice Ak187 ((rowL at_ (swG xs i)).length) capk187), (13, .slice Av187 ((rowL at_ (swG xs i)).length) capv187), (102, .bool (!(decide ((((rowL at_ (swG xs i)).length : Nat) : Int) = (((rowL at_ (swG xs i)).length : Nat) : Int)))))] (by kernel_rfl) ?_
      refine OI_eq [(5, .pointer (some ⟨g6, 0, none⟩)), (6, .pointer (some ⟨g17, 0, none⟩)), (9, .slice Ak177 ((rowL at_ (swG xs i)).length) capk177), (10, .slice Av177 ((rowL at_ (swG xs i)).length) capv177), (12, .slice Ak187 ((rowL at_ (swG xs i)).length) capk187), (13, .slice Av187 ((rowL at_ (swG xs i)).length) capv187), (102, .bool false)] (by rw [decide_eq_true (by first | rfl | omega : (((rowL at_ (swG xs i)).length : Nat) : Int) = (((rowL at_ (swG xs i)).length : Nat) : Int))]; rfl) ?_
      refine OI_static 21 [(5, .pointer (some ⟨g6, 0, none⟩)), (6, .pointer (some ⟨g17, 0, none⟩)), (9, .slice Ak177 ((rowL at_ (swG xs i)).length) capk177), (10, .slice Av177 ((rowL at_ (swG xs i)).length) capv177), (12, .slice Ak187 ((rowL at_ (swG xs i)).length) capk187), (13, .slice Av187 ((rowL at_ (swG xs i)).length) capv187), (109, .bool (!(decide ((((rowL at_ (swG xs i)).length : Nat) : Int) = (((rowL at_ (swG xs i)).length : Nat) : Int)))))] (by kernel_rfl) ?_
      refine OI_eq [(5, .pointer (some ⟨g6, 0, none⟩)), (6, .pointer (some ⟨g17, 0, none⟩)), (9, .slice Ak177 ((rowL at_ (swG xs i)).length) capk177), (10, .slice Av177 ((rowL at_ (swG xs i)).length) capv177), (12, .slice Ak187 ((rowL at_ (swG xs i)).length) capk187), (13, .slice Av187 ((rowL at_ (swG xs i)).length) capv187), (109, .bool false)] (by rw [decide_eq_true (by first | rfl | omega : (((rowL at_ (swG xs i)).length : Nat) : Int) = (((rowL at_ (swG xs i)).length : Nat) : Int))]; rfl) ?_
      refine OI_static 22 [(6, .pointer (some ⟨g17, 0, none⟩)), (9, .slice Ak177 ((rowL at_ (swG xs i)).length) capk177), (10, .slice Av177 ((rowL at_ (swG xs i)).length) capv177), (12, .slice Ak187 ((rowL at_ (swG xs i)).length) capk187), (13, .slice Av187 ((rowL at_ (swG xs i)).length) capv187), (109, .bool false), (110, .pointer (some ⟨g6, 0, none⟩))] (by kernel_rfl) ?_
      refine OI_call { callee := (Callee.value (Operand.func 21)), args := #[(Operand.tmp 110)], argTypes := #[22] } 21 #[.pointer (some ⟨g6, 0, none⟩)] (some 111) (by kernel_rfl) (by kernel_rfl) (by kernel_rfl) (len_spec F25 g6 (swG xs i) _ (Grd.gr ho26)) ?_
      rintro _ w185 ⟨rfl, rfl⟩
      refine ⟨_, rfl, ?_⟩
      refine OI_static 24 [(9, .slice Ak177 ((rowL at_ (swG xs i)).length) capk177), (10, .slice Av177 ((rowL at_ (swG xs i)).length) capv177), (12, .slice Ak187 ((rowL at_ (swG xs i)).length) capk187), (13, .slice Av187 ((rowL at_ (swG xs i)).length) capv187), (109, .bool false), (111, .int .i64 (((swG xs i).length : Nat) : Int)), (112, .pointer (some ⟨g17, 0, none⟩))] (by kernel_rfl) ?_
      refine OI_call { callee := (Callee.value (Operand.func 21)), args := #[(Operand.tmp 112)], argTypes := #[22] } 21 #[.pointer (some ⟨g17, 0, none⟩)] (some 113) (by kernel_rfl) (by kernel_rfl) (by kernel_rfl) (len_spec F29 g17 (swH xs i) _ (Grd.gr ho30)) ?_
      rintro _ w185 ⟨rfl, rfl⟩
      refine ⟨_, rfl, ?_⟩
      refine OI_static 27 [(9, .slice Ak177 ((rowL at_ (swG xs i)).length) capk177), (10, .slice Av177 ((rowL at_ (swG xs i)).length) capv177), (12, .slice Ak187 ((rowL at_ (swG xs i)).length) capk187), (13, .slice Av187 ((rowL at_ (swG xs i)).length) capv187), (115, .bool (!(decide ((((swG xs i).length : Nat) : Int) = (((swH xs i).length : Nat) : Int)))))] (by kernel_rfl) ?_
      refine OI_end rfl ?_
      refine X_then ?_
      refine V_eq [(9, .slice Ak177 ((rowL at_ (swG xs i)).length) capk177), (10, .slice Av177 ((rowL at_ (swG xs i)).length) capv177), (12, .slice Ak187 ((rowL at_ (swG xs i)).length) capk187), (13, .slice Av187 ((rowL at_ (swG xs i)).length) capv187), (115, .bool false)] (by rw [decide_eq_true (by first | rfl | omega : (((swG xs i).length : Nat) : Int) = (((swH xs i).length : Nat) : Int))]; rfl) ?_
      refine V_false rfl ?_
      refine V_skip ?_
      refine X_then ?_
      refine V_seq ?_
      refine V_seq ?_
      refine V_region ?_
      refine OI_static 1 [(9, .slice Ak177 ((rowL at_ (swG xs i)).length) capk177), (10, .slice Av177 ((rowL at_ (swG xs i)).length) capv177), (12, .slice Ak187 ((rowL at_ (swG xs i)).length) capk187), (13, .slice Av187 ((rowL at_ (swG xs i)).length) capv187), (15, .int .i64 0)] (by kernel_rfl) ?_
      refine OI_end rfl ?_
      refine X_then ?_
      refine V_block ?_
      have hrl : (rowL at_ (swG xs i)).length ≤ (swG xs i).length := by unfold rowL; rw [List.length_map]; exact List.length_filter_le _ _
      refine V_pick [(9, .slice Ak177 ((rowL at_ (swG xs i)).length) capk177), (10, .slice Av177 ((rowL at_ (swG xs i)).length) capv177), (12, .slice Ak187 ((rowL at_ (swG xs i)).length) capk187), (13, .slice Av187 ((rowL at_ (swG xs i)).length) capv187), (15, .int .i64 0)] rfl ?_
      refine V_loop (fun k wI e => ∃ q : Nat, (k + q = (rowL at_ (swG xs i)).length) ∧ Keep none_ w185 wI ∧ e = [(9, .slice Ak177 ((rowL at_ (swG xs i)).length) capk177), (10, .slice Av177 ((rowL at_ (swG xs i)).length) capv177), (12, .slice Ak187 ((rowL at_ (swG xs i)).length) capk187), (13, .slice Av187 ((rowL at_ (swG xs i)).length) capv187), (15, .int .i64 ((q : Nat) : Int))]) ((rowL at_ (swG xs i)).length) ⟨0, by omega, Keep.refl _ _, rfl⟩ ?_
      rintro k199 w198 _ ⟨q, hkq, hk200, rfl⟩
      have hsz201 := Keep.size hk200
      replace hbg171 := hbg171.keep hk200 (fun f => f)
      have hbg171lt := hbg171.lt
      replace hbs172 := hbs172.keep hk200 (fun f => f)
      have hbs172lt := hbs172.lt
      replace hbn173 := hbn173.keep hk200 (fun f => f)
      have hbn173lt := hbn173.lt
      replace hbg181 := hbg181.keep hk200 (fun f => f)
      have hbg181lt := hbg181.lt
      replace hbs182 := hbs182.keep hk200 (fun f => f)
      have hbs182lt := hbs182.lt
      replace hbn183 := hbn183.keep hk200 (fun f => f)
      have hbn183lt := hbn183.lt
      replace hA := ArgT.keep0 hA hk200
      replace hAk177 := SlT.keep0 hAk177 hk200
      replace hAv177 := SlT.keep0 hAv177 hk200
      replace hAk187 := SlT.keep0 hAk187 hk200
      replace hAv187 := SlT.keep0 hAv187 hk200
      replace hK0 := Keep.tr hK0 (Keep.ofNone hk200); have hzhK0 := Keep.size hK0
      replace ho26 := Grd.keep ho26 hk200 (fun _ _ f => f)
      replace ho30 := Grd.keep ho30 hk200 (fun _ _ f => f)
      have hzhk200 := Keep.size hk200
      refine V_seq ?_
      refine V_seq ?_
      refine V_region ?_
      refine OI_static 4 [(9, .slice Ak177 ((rowL at_ (swG xs i)).length) capk177), (10, .slice Av177 ((rowL at_ (swG xs i)).length) capv177), (12, .slice Ak187 ((rowL at_ (swG xs i)).length) capk187), (13, .slice Av187 ((rowL at_ (swG xs i)).length) capv187), (15, .int .i64 ((q : Nat) : Int)), (119, .bool (decide (((q : Nat) : Int) < (((rowL at_ (swG xs i)).length : Nat) : Int))))] (by kernel_rfl) ?_
      refine OI_end rfl ?_
      refine X_then ?_
      refine V_if (((q : Nat) : Int) < (((rowL at_ (swG xs i)).length : Nat) : Int)) (by kernel_rfl) (fun hc202 => ?_) (fun hc202 => ?_)
      · skip
        refine V_skip ?_
        refine X_then ?_
        refine V_seq ?_
        refine V_block ?_
        refine V_seq ?_
        refine V_draws (acts []) none_ [[0, 1, 2, 3, 4, 5, 6, 7, 8, 9, 10, 11, 12, 13, 14, 15, 16, 17, 18, 19]] (by kernel_rfl) (by repeat first | exact sure_body (by rintro _ _ ⟨h, _⟩; exact ⟨_, h⟩) | refine sure_then ?_ | refine sure_block ?_ | refine sure_join ?_) (by kernel_rfl) ?_
        intro w204 hk203 he205 L hL206
        have hsz207 := Keep.size hk203
        replace hbg171 := hbg171.keep hk203 (fun f => f)
        have hbg171lt := hbg171.lt
        replace hbs172 := hbs172.keep hk203 (fun f => f)
        have hbs172lt := hbs172.lt
        replace hbn173 := hbn173.keep hk203 (fun f => f)
        have hbn173lt := hbn173.lt
        replace hbg181 := hbg181.keep hk203 (fun f => f)
        have hbg181lt := hbg181.lt
        replace hbs182 := hbs182.keep hk203 (fun f => f)
        have hbs182lt := hbs182.lt
        replace hbn183 := hbn183.keep hk203 (fun f => f)
        have hbn183lt := hbn183.lt
        replace hA := ArgT.keep0 hA hk203
        replace hAk177 := SlT.keep0 hAk177 hk203
        replace hAv177 := SlT.keep0 hAv177 hk203
        replace hAk187 := SlT.keep0 hAk187 hk203
        replace hAv187 := SlT.keep0 hAv187 hk203
        replace hK0 := Keep.tr hK0 (Keep.ofNone hk203); have hzhK0 := Keep.size hK0
        replace ho26 := Grd.keep ho26 hk203 (fun _ _ f => f)
        replace ho30 := Grd.keep ho30 hk203 (fun _ _ f => f)
        replace hk200 := Keep.tr hk200 (Keep.ofNone hk203); have hzhk200 := Keep.size hk200
        have qhbg171 := hbg171
        have qhbs172 := hbs172
        have qhbn173 := hbn173
        have qhbg181 := hbg181
        have qhbs182 := hbs182
        have qhbn183 := hbn183
        have K208 : Keep none_ w204 w204 := Keep.refl _ _
        obtain rfl := List.mem_singleton.1 hL206
        refine GI_static [2, 3, 4, 5, 6, 7, 8, 9, 10, 11, 12, 13, 14, 15, 16, 17, 18, 19] [(9, .slice Ak177 ((rowL at_ (swG xs i)).length) capk177), (10, .slice Av177 ((rowL at_ (swG xs i)).length) capv177), (12, .slice Ak187 ((rowL at_ (swG xs i)).length) capk187), (13, .slice Av187 ((rowL at_ (swG xs i)).length) capv187), (15, .int .i64 ((q : Nat) : Int)), (122, .slice Ak177 ((rowL at_ (swG xs i)).length) capk177), (123, .int .i64 ((q : Nat) : Int))] (by kernel_rfl) ?_
        obtain ⟨b209, o209, L209, T209, rfl, hat209⟩ := SlT.open_ hAk177 (by first | omega | (simp only [List.length_map]; omega) | (simp; done) | (simp; omega))
        have hb209lt := hat209.blk.lt
        have hob210 := owAk177 b209 ⟨_, rfl, rfl⟩
        have hob211 := ltAk177 b209 ⟨_, rfl, rfl⟩
        refine GI_pure (some 124) (.indexAddr 30 (.tmp 122) (.tmp 123)) (by kernel_rfl) (by kernel_rfl) (pure_idxN (b := b209) (o := o209) (len := (rowL at_ (swG xs i)).length) (cap := capk177) (kd := .i64) (j := q) (E := 3) (sz := 1) (by_ := 8) (by kernel_rfl) (by kernel_rfl) (by kernel_rfl) (by omega)) ?_
        obtain ⟨x212, hx213⟩ : ∃ x, ((rowL at_ (swG xs i)).map (·.1))[q]? = some x := ⟨_, List.getElem?_eq_getElem (by first | omega | (simp only [List.length_map]; omega))⟩
        refine GI_cell 3 (.tmp 124) (o209 + q * 1) (.int .i64 x212) (some 125) (by kernel_rfl) (by kernel_rfl) (by kernel_rfl) hat209.blk (fun f => f) (m := 1) (by kernel_rfl) (At.cell0 hat209 (es_at hx213) rfl) ?_
        refine GI_static [6, 7, 8, 9, 10, 11, 12, 13, 14, 15, 16, 17, 18, 19] [(9, .slice (some ⟨b209, o209, none⟩) ((rowL at_ (swG xs i)).length) capk177), (10, .slice Av177 ((rowL at_ (swG xs i)).length) capv177), (12, .slice Ak187 ((rowL at_ (swG xs i)).length) capk187), (13, .slice Av187 ((rowL at_ (swG xs i)).length) capv187), (15, .int .i64 ((q : Nat) : Int)), (125, .int .i64 x212), (126, .slice Ak187 ((rowL at_ (swG xs i)).length) capk187), (127, .int .i64 ((q : Nat) : Int))] (by kernel_rfl) ?_
        obtain ⟨b214, o214, L214, T214, rfl, hat214⟩ := SlT.open_ hAk187 (by first | omega | (simp only [List.length_map]; omega) | (simp; done) | (simp; omega))
        have hb214lt := hat214.blk.lt
        have hob215 := owAk187 b214 ⟨_, rfl, rfl⟩
        have hob216 := ltAk187 b214 ⟨_, rfl, rfl⟩
        refine GI_pure (some 128) (.indexAddr 30 (.tmp 126) (.tmp 127)) (by kernel_rfl) (by kernel_rfl) (pure_idxN (b := b214) (o := o214) (len := (rowL at_ (swG xs i)).length) (cap := capk187) (kd := .i64) (j := q) (E := 3) (sz := 1) (by_ := 8) (by kernel_rfl) (by kernel_rfl) (by kernel_rfl) (by omega)) ?_
        refine GI_cell 3 (.tmp 128) (o214 + q * 1) (.int .i64 x212) (some 129) (by kernel_rfl) (by kernel_rfl) (by kernel_rfl) hat214.blk (fun f => f) (m := 1) (by kernel_rfl) (At.cell0 hat214 (es_at hx213) rfl) ?_
        refine GI_static [10, 11, 12, 13, 14, 15, 16, 17, 18, 19] [(9, .slice (some ⟨b209, o209, none⟩) ((rowL at_ (swG xs i)).length) capk177), (10, .slice Av177 ((rowL at_ (swG xs i)).length) capv177), (12, .slice (some ⟨b214, o214, none⟩) ((rowL at_ (swG xs i)).length) capk187), (13, .slice Av187 ((rowL at_ (swG xs i)).length) capv187), (15, .int .i64 ((q : Nat) : Int)), (131, .bool (!(decide (x212 = x212))))] (by kernel_rfl) ?_
        refine GI_eq [(9, .slice (some ⟨b209, o209, none⟩) ((rowL at_ (swG xs i)).length) capk177), (10, .slice Av177 ((rowL at_ (swG xs i)).length) capv177), (12, .slice (some ⟨b214, o214, none⟩) ((rowL at_ (swG xs i)).length) capk187), (13, .slice Av187 ((rowL at_ (swG xs i)).length) capv187), (15, .int .i64 ((q : Nat) : Int)), (131, .bool false)] (by rw [decide_eq_true (by first | rfl | omega : x212 = x212)]; rfl) ?_
        refine GI_static [12, 13, 14, 15, 16, 17, 18, 19] [(9, .slice (some ⟨b209, o209, none⟩) ((rowL at_ (swG xs i)).length) capk177), (10, .slice Av177 ((rowL at_ (swG xs i)).length) capv177), (12, .slice (some ⟨b214, o214, none⟩) ((rowL at_ (swG xs i)).length) capk187), (13, .slice Av187 ((rowL at_ (swG xs i)).length) capv187), (15, .int .i64 ((q : Nat) : Int)), (131, .bool false), (132, .slice Av177 ((rowL at_ (swG xs i)).length) capv177), (133, .int .i64 ((q : Nat) : Int))] (by kernel_rfl) ?_
        obtain ⟨b218, o218, L218, T218, rfl, hat218⟩ := SlT.open_ hAv177 (by first | omega | (simp only [List.length_map]; omega) | (simp; done) | (simp; omega))
        have hb218lt := hat218.blk.lt
        have hob219 := owAv177 b218 ⟨_, rfl, rfl⟩
        have hob220 := ltAv177 b218 ⟨_, rfl, rfl⟩
        refine GI_pure (some 134) (.indexAddr 30 (.tmp 132) (.tmp 133)) (by kernel_rfl) (by kernel_rfl) (pure_idxN (b := b218) (o := o218) (len := (rowL at_ (swG xs i)).length) (cap := capv177) (kd := .i64) (j := q) (E := 3) (sz := 1) (by_ := 8) (by kernel_rfl) (by kernel_rfl) (by kernel_rfl) (by omega)) ?_
        obtain ⟨x221, hx222⟩ : ∃ x, ((rowL at_ (swG xs i)).map (·.2))[q]? = some x := ⟨_, List.getElem?_eq_getElem (by first | omega | (simp only [List.length_map]; omega))⟩
        refine GI_cell 3 (.tmp 134) (o218 + q * 1) (.int .i64 x221) (some 135) (by kernel_rfl) (by kernel_rfl) (by kernel_rfl) hat218.blk (fun f => f) (m := 1) (by kernel_rfl) (At.cell0 hat218 (es_at hx222) rfl) ?_
        refine GI_static [16, 17, 18, 19] [(9, .slice (some ⟨b209, o209, none⟩) ((rowL at_ (swG xs i)).length) capk177), (10, .slice (some ⟨b218, o218, none⟩) ((rowL at_ (swG xs i)).length) capv177), (12, .slice (some ⟨b214, o214, none⟩) ((rowL at_ (swG xs i)).length) capk187), (13, .slice Av187 ((rowL at_ (swG xs i)).length) capv187), (15, .int .i64 ((q : Nat) : Int)), (131, .bool false), (132, .slice (some ⟨b218, o218, none⟩) ((rowL at_ (swG xs i)).length) capv177), (133, .int .i64 ((q : Nat) : Int)), (134, .pointer (some ⟨b218, o218 + q * 1, none⟩)), (135, .int .i64 x221), (136, .slice Av187 ((rowL at_ (swG xs i)).length) capv187), (137, .int .i64 ((q : Nat) : Int))] (by kernel_rfl) ?_
        obtain ⟨b223, o223, L223, T223, rfl, hat223⟩ := SlT.open_ hAv187 (by first | omega | (simp only [List.length_map]; omega) | (simp; done) | (simp; omega))
        have hb223lt := hat223.blk.lt
        have hob224 := owAv187 b223 ⟨_, rfl, rfl⟩
        have hob225 := ltAv187 b223 ⟨_, rfl, rfl⟩
        refine GI_pure (some 138) (.indexAddr 30 (.tmp 136) (.tmp 137)) (by kernel_rfl) (by kernel_rfl) (pure_idxN (b := b223) (o := o223) (len := (rowL at_ (swG xs i)).length) (cap := capv187) (kd := .i64) (j := q) (E := 3) (sz := 1) (by_ := 8) (by kernel_rfl) (by kernel_rfl) (by kernel_rfl) (by omega)) ?_
        refine GI_cell 3 (.tmp 138) (o223 + q * 1) (.int .i64 x221) (some 139) (by kernel_rfl) (by kernel_rfl) (by kernel_rfl) hat223.blk (fun f => f) (m := 1) (by kernel_rfl) (At.cell0 hat223 (es_at hx222) rfl) ?_
        refine GI_static [] [(9, .slice (some ⟨b209, o209, none⟩) ((rowL at_ (swG xs i)).length) capk177), (10, .slice (some ⟨b218, o218, none⟩) ((rowL at_ (swG xs i)).length) capv177), (12, .slice (some ⟨b214, o214, none⟩) ((rowL at_ (swG xs i)).length) capk187), (13, .slice (some ⟨b223, o223, none⟩) ((rowL at_ (swG xs i)).length) capv187), (15, .int .i64 ((q : Nat) : Int)), (132, .slice (some ⟨b218, o218, none⟩) ((rowL at_ (swG xs i)).length) capv177), (133, .int .i64 ((q : Nat) : Int)), (134, .pointer (some ⟨b218, o218 + q * 1, none⟩)), (135, .int .i64 x221), (136, .slice (some ⟨b223, o223, none⟩) ((rowL at_ (swG xs i)).length) capv187), (137, .int .i64 ((q : Nat) : Int)), (138, .pointer (some ⟨b223, o223 + q * 1, none⟩)), (139, .int .i64 x221), (140, .bool (!(decide (x221 = x221)))), (141, .bool (!(decide (x221 = x221))))] (by kernel_rfl) ?_
        refine GI_end ?_
        refine X_then ?_
        refine V_eq [(9, .slice (some ⟨b209, o209, none⟩) ((rowL at_ (swG xs i)).length) capk177), (10, .slice (some ⟨b218, o218, none⟩) ((rowL at_ (swG xs i)).length) capv177), (12, .slice (some ⟨b214, o214, none⟩) ((rowL at_ (swG xs i)).length) capk187), (13, .slice (some ⟨b223, o223, none⟩) ((rowL at_ (swG xs i)).length) capv187), (15, .int .i64 ((q : Nat) : Int)), (132, .slice (some ⟨b218, o218, none⟩) ((rowL at_ (swG xs i)).length) capv177), (133, .int .i64 ((q : Nat) : Int)), (134, .pointer (some ⟨b218, o218 + q * 1, none⟩)), (135, .int .i64 x221), (136, .slice (some ⟨b223, o223, none⟩) ((rowL at_ (swG xs i)).length) capv187), (137, .int .i64 ((q : Nat) : Int)), (138, .pointer (some ⟨b223, o223 + q * 1, none⟩)), (139, .int .i64 x221), (140, .bool (!(decide (x221 = x221)))), (141, .bool false)] (by rw [decide_eq_true (by first | rfl | omega : x221 = x221)]; rfl) ?_
        refine V_false rfl ?_
        refine V_skip ?_
        refine X_block ?_
        refine X_then ?_
        refine V_region ?_
        have hw227 : IntKind.i64.wrap (((q : Nat) : Int) + 1) = ((q + 1 : Nat) : Int) := (wrap64_id (by omega) (by omega)).trans (by omega)
        refine OI_static 2 [(9, .slice (some ⟨b209, o209, none⟩) ((rowL at_ (swG xs i)).length) capk177), (10, .slice (some ⟨b218, o218, none⟩) ((rowL at_ (swG xs i)).length) capv177), (12, .slice (some ⟨b214, o214, none⟩) ((rowL at_ (swG xs i)).length) capk187), (13, .slice (some ⟨b223, o223, none⟩) ((rowL at_ (swG xs i)).length) capv187), (121, .int .i64 (IntKind.i64.wrap (((q : Nat) : Int) + 1))), (132, .slice (some ⟨b218, o218, none⟩) ((rowL at_ (swG xs i)).length) capv177), (133, .int .i64 ((q : Nat) : Int)), (134, .pointer (some ⟨b218, o218 + q * 1, none⟩)), (135, .int .i64 x221), (136, .slice (some ⟨b223, o223, none⟩) ((rowL at_ (swG xs i)).length) capv187), (137, .int .i64 ((q : Nat) : Int)), (138, .pointer (some ⟨b223, o223 + q * 1, none⟩)), (139, .int .i64 x221), (140, .bool (!(decide (x221 = x221))))] (by kernel_rfl) ?_
        refine OI_eq [(9, .slice (some ⟨b209, o209, none⟩) ((rowL at_ (swG xs i)).length) capk177), (10, .slice (some ⟨b218, o218, none⟩) ((rowL at_ (swG xs i)).length) capv177), (12, .slice (some ⟨b214, o214, none⟩) ((rowL at_ (swG xs i)).length) capk187), (13, .slice (some ⟨b223, o223, none⟩) ((rowL at_ (swG xs i)).length) capv187), (121, .int .i64 ((q + 1 : Nat) : Int)), (132, .slice (some ⟨b218, o218, none⟩) ((rowL at_ (swG xs i)).length) capv177), (133, .int .i64 ((q : Nat) : Int)), (134, .pointer (some ⟨b218, o218 + q * 1, none⟩)), (135, .int .i64 x221), (136, .slice (some ⟨b223, o223, none⟩) ((rowL at_ (swG xs i)).length) capv187), (137, .int .i64 ((q : Nat) : Int)), (138, .pointer (some ⟨b223, o223 + q * 1, none⟩)), (139, .int .i64 x221), (140, .bool (!(decide (x221 = x221))))] (by rw [hw227]) ?_
        refine OI_static 3 [(9, .slice (some ⟨b209, o209, none⟩) ((rowL at_ (swG xs i)).length) capk177), (10, .slice (some ⟨b218, o218, none⟩) ((rowL at_ (swG xs i)).length) capv177), (12, .slice (some ⟨b214, o214, none⟩) ((rowL at_ (swG xs i)).length) capk187), (13, .slice (some ⟨b223, o223, none⟩) ((rowL at_ (swG xs i)).length) capv187), (15, .int .i64 ((q + 1 : Nat) : Int)), (132, .slice (some ⟨b218, o218, none⟩) ((rowL at_ (swG xs i)).length) capv177), (133, .int .i64 ((q : Nat) : Int)), (134, .pointer (some ⟨b218, o218 + q * 1, none⟩)), (135, .int .i64 x221), (136, .slice (some ⟨b223, o223, none⟩) ((rowL at_ (swG xs i)).length) capv187), (137, .int .i64 ((q : Nat) : Int)), (138, .pointer (some ⟨b223, o223 + q * 1, none⟩)), (139, .int .i64 x221), (140, .bool (!(decide (x221 = x221))))] (by kernel_rfl) ?_
        refine OI_end rfl ?_
        exact V_again (k199 - 1) (by omega) [(9, .slice (some ⟨b209, o209, none⟩) ((rowL at_ (swG xs i)).length) capk177), (10, .slice (some ⟨b218, o218, none⟩) ((rowL at_ (swG xs i)).length) capv177), (12, .slice (some ⟨b214, o214, none⟩) ((rowL at_ (swG xs i)).length) capk187), (13, .slice (some ⟨b223, o223, none⟩) ((rowL at_ (swG xs i)).length) capv187), (15, .int .i64 ((q + 1 : Nat) : Int))] rfl ⟨q + 1, by omega, hk200, rfl⟩
      · skip
        refine V_exit ?_
        refine X_exit_then ?_
        refine X_exit_then ?_
        refine X_exit_here ?_
        refine X_then ?_
        refine V_seq ?_
        refine V_region ?_
        refine OI_call { callee := (Callee.value (Operand.func 14)), args := #[], argTypes := #[] } 14 #[] (some 142) (by kernel_rfl) (by kernel_rfl) (by kernel_rfl) (known_spec _) ?_
        rintro _ w228 ⟨rfl, hk229⟩
        refine ⟨_, rfl, ?_⟩
        have hsz230 := Keep.size hk229
        replace hbg171 := hbg171.keep hk229 (fun f => f)
        have hbg171lt := hbg171.lt
        replace hbs172 := hbs172.keep hk229 (fun f => f)
        have hbs172lt := hbs172.lt
        replace hbn173 := hbn173.keep hk229 (fun f => f)
        have hbn173lt := hbn173.lt
        replace hbg181 := hbg181.keep hk229 (fun f => f)
        have hbg181lt := hbg181.lt
        replace hbs182 := hbs182.keep hk229 (fun f => f)
        have hbs182lt := hbs182.lt
        replace hbn183 := hbn183.keep hk229 (fun f => f)
        have hbn183lt := hbn183.lt
        replace hA := ArgT.keep0 hA hk229
        replace hAk177 := SlT.keep0 hAk177 hk229
        replace hAv177 := SlT.keep0 hAv177 hk229
        replace hAk187 := SlT.keep0 hAk187 hk229
        replace hAv187 := SlT.keep0 hAv187 hk229
        replace hK0 := Keep.tr hK0 (Keep.ofNone hk229); have hzhK0 := Keep.size hK0
        replace ho26 := Grd.keep ho26 hk229 (fun _ _ f => f)
        replace ho30 := Grd.keep ho30 hk229 (fun _ _ f => f)
        refine OI_static 2 [(4, .bool true)] (by kernel_rfl) ?_
        refine OI_end rfl ?_
        refine X_then ?_
        refine V_ret ?_
        exact X_return (.bool true) rfl ⟨rfl, hK0⟩

theorem over_GridSwaps {H : Type} {enc : TypeId × Value → H} {A : Option Addr} {len cap : Nat} {d : DataW H} {ps : List MemPlace} {w : World} (h : DataW.Trod enc Try.prog w 0 (fun _ => true) true 40 (.slice A len cap) d ps) (a : Int) : Calls Try.prog 5 #[.slice A len cap, .int .i64 a] w fun e w' => e = .returned (.bool true) ∧ Keep none_ w w' := by
  obtain ⟨xs, rfl, hA, hl, hc⟩ := read_elems (f := Ac4.cells) (ks := [.int .i64, .int .i64, .int .i64, .int .i64]) (n := 4) (sz := 4) lift_Ac4 Try.underlying40 (by kernel_rfl) (by kernel_rfl) rfl (by decide) h
  exact walk_GridSwaps A cap xs a w hA (by unfold maxLen at hc; omega)
end Go.Al
