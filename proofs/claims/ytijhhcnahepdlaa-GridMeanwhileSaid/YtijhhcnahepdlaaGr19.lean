/-
  Walks of the laws of grid: meanwhile.
-/
import Derived.Test.YtijhhcnahepdlaaGr18
import Derived.Test.YtijhhcnahepdlaaGr17
namespace Go.Al
open Go Go.RowKit Go.Proofs
/-! ### Meanwhile -/
def mC (bas : List Ci) (ms : List Ac4) : Nat → List Ci
  | 0 => bas
  | k + 1 => match ms[k]? with | some z => actC z (mC bas ms k) | none => mC bas ms k
theorem actC_len (z : Ac4) (cs : List Ci) : (actC z cs).length ≤ cs.length + 1 := by
  unfold actC
  split
  · have : ∀ cs : List Ci, (setC z.a z.b z.n cs).length ≤ cs.length + 1 := by
      intro cs
      induction cs with
      | nil => simp [setC]
      | cons x l ih =>
        simp only [setC]
        split
        · simp
        · split
          · simp only [List.length_cons]; omega
          · simp
    exact this cs
  · split
    · have : ∀ cs : List Ci, (delC z.a z.b cs).length ≤ cs.length := by
        intro cs
        induction cs with
        | nil => simp [delC]
        | cons x l ih =>
          simp only [delC]
          split <;> simp <;> omega
      have := this cs; omega
    · omega
theorem mC_len (bas : List Ci) (ms : List Ac4) : ∀ k, (mC bas ms k).length ≤ bas.length + k
  | 0 => Nat.le_refl _
  | k + 1 => by
    have h := mC_len bas ms k
    simp only [mC]
    cases ms[k]? with
    | none => exact Nat.le_trans h (Nat.le_succ _)
    | some z => exact Nat.le_trans (actC_len _ _) (by omega)
theorem mC_act {bas : List Ci} {ms : List Ac4} {k : Nat} {z : Ac4} (h : ms[k]? = some z) : actC z (mC bas ms k) = mC bas ms (k + 1) := by simp only [mC, h]
theorem mC_no {bas : List Ci} {ms : List Ac4} {k : Nat} (h : ms.length ≤ k) : mC bas ms k = mC bas ms (k + 1) := by simp only [mC, List.getElem?_eq_none h]
theorem rowL_map (n : Int) (cs : List Ci) : rowL n cs = (cs.filter fun c => c.a == n).map fun c => (c.b, c.v) := rfl
theorem colL_map (n : Int) (cs : List Ci) : colL n cs = (cs.filter fun c => c.b == n).map fun c => (c.a, c.v) := rfl

set_option maxHeartbeats 4000000 in
set_option maxRecDepth 10000 in
theorem walk_GridMeanwhile (A B : Option Addr) (cap capb : Nat) (xs ms : List Ac4) (way at_ : Int) (w : World) (hA0 : ArgT w 4 Ac4.cells A cap xs) (hB0 : ArgT w 4 Ac4.cells B capb ms) (hcap : xs.length ≤ 9223372036854775807) (hcapb : ms.length ≤ 9223372036854775807) : Calls Try.prog 8 #[.slice A xs.length cap, .slice B ms.length capb, .int .i64 way, .int .i64 at_] w fun e w' => e = .returned (.bool true) ∧ Keep none_ w w' := by
  have hA := hA0
  have hB := hB0
  have hK0 : Keep none_ w w := Keep.refl _ _
  have hzhK0 := Keep.size hK0
  refine enterM Try.func8 rfl [.slice A xs.length cap, .slice B ms.length capb, .int .i64 way, .int .i64 at_] 138 rfl rfl rfl ?_
  refine V_pick [(0, .slice A xs.length cap), (1, .slice B ms.length capb), (2, .int .i64 way), (3, .int .i64 at_)] rfl ?_
  refine V_seq ?_
  refine V_region ?_
  refine OI_box 40 (.tmp 1) (.slice B ms.length capb) [.slice B ms.length capb] (some 5) (by kernel_rfl) (by kernel_rfl) (by kernel_rfl) ?_
  intro b1 w1 e1 hb1 k1 z1
  have hsz2 := Keep.size k1
  replace hA := ArgT.keep0 hA k1
  replace hB := ArgT.keep0 hB k1
  replace hK0 := Keep.tr hK0 (Keep.ofNone k1); have hzhK0 := Keep.size hK0
  have hb1lt := hb1.lt
  refine OI_box 3 (.tmp 2) (.int .i64 way) [.int .i64 way] (some 6) (by kernel_rfl) (by kernel_rfl) (by kernel_rfl) ?_
  intro b3 w3 e3 hb3 k3 z3
  have hsz4 := Keep.size k3
  replace hb1 := hb1.keep k3 (fun f => f)
  have hb1lt := hb1.lt
  replace hA := ArgT.keep0 hA k3
  replace hB := ArgT.keep0 hB k3
  replace hK0 := Keep.tr hK0 (Keep.ofNone k3); have hzhK0 := Keep.size hK0
  have hb3lt := hb3.lt
  refine OI_alloc 4 (.bool false) [.bool false] (some 8) (by kernel_rfl) (by kernel_rfl) (by kernel_rfl) ?_
  intro b5 w5 e5 hb5 k5 z5
  have hsz6 := Keep.size k5
  replace hb1 := hb1.keep k5 (fun f => f)
  have hb1lt := hb1.lt
  replace hb3 := hb3.keep k5 (fun f => f)
  have hb3lt := hb3.lt
  replace hA := ArgT.keep0 hA k5
  replace hB := ArgT.keep0 hB k5
  replace hK0 := Keep.tr hK0 (Keep.ofNone k5); have hzhK0 := Keep.size hK0
  have hb5lt := hb5.lt
  refine OI_end rfl ?_
  refine X_then ?_
  refine V_seq ?_
  refine V_seq ?_
  refine V_region ?_
  refine OI_static 4 [(0, .slice A xs.length cap), (3, .int .i64 at_), (5, .pointer (some ⟨b1, 0, none⟩)), (6, .pointer (some ⟨b3, 0, none⟩)), (8, .pointer (some ⟨b5, 0, none⟩)), (21, .bool (decide (((xs.length : Nat) : Int) > 10000)))] (by kernel_rfl) ?_
  by_cases hg7 : ((xs.length : Nat) : Int) > 10000
  · skip
    refine OI_eq [(0, .slice A xs.length cap), (3, .int .i64 at_), (5, .pointer (some ⟨b1, 0, none⟩)), (6, .pointer (some ⟨b3, 0, none⟩)), (8, .pointer (some ⟨b5, 0, none⟩)), (21, .bool true)] (by first | simp [hg7] | rfl) ?_
    refine OI_static 16 [(0, .slice A xs.length cap), (3, .int .i64 at_), (5, .pointer (some ⟨b1, 0, none⟩)), (6, .pointer (some ⟨b3, 0, none⟩)), (8, .pointer (some ⟨b5, 0, none⟩)), (33, .bool true)] (by kernel_rfl) ?_
    refine OI_end rfl ?_
    refine X_then ?_
    refine V_true rfl ?_
    refine V_seq ?_
    refine V_region ?_
    refine OI_set (m := 1) (kd := false) 4 (.tmp 8) (.const (Value.bool true)) 0 (.bool true) [.bool true] none (by kernel_rfl) (by kernel_rfl) (by kernel_rfl) hb5 (by kernel_rfl) (by kernel_rfl) (by kernel_rfl) (Nat.le_of_ble_eq_true (by kernel_rfl)) (by simp [Value.oneCell']) ?_
    intro w8 hb5_11 hk9 hz10
    replace hb5_11 : Blk w8 b5 [.bool true] 4 := hb5_11
    have hsz12 := Keep.size hk9
    replace hb1 := hb1.keep hk9 (by show ¬ (_ = _); omega)
    have hb1lt := hb1.lt
    replace hb3 := hb3.keep hk9 (by show ¬ (_ = _); omega)
    have hb3lt := hb3.lt
    replace hA := ArgT.keep hA hk9 hA0 (fun k hk hs => by have hs : k = b5 := hs; omega)
    replace hB := ArgT.keep hB hk9 hB0 (fun k hk hs => by have hs : k = b5 := hs; omega)
    replace hK0 := Keep.fresh hK0 hk9 (by intro i hi hs; first | exact hs | exact Or.inl hs | exact Or.inr hs | (exfalso; have hs2 : i = b5 := hs; omega)); have hzhK0 := Keep.size hK0
    refine OI_end rfl ?_
    refine X_then ?_
    refine V_ret ?_
    refine X_ret_then ?_
    exact leave0 (.bool true) (.inl rfl) (res_cell1 (n1 := 1) rfl rfl (by kernel_rfl) hb5_11 ) (⟨rfl, hK0⟩)
  · skip
    refine OI_eq [(0, .slice A xs.length cap), (3, .int .i64 at_), (5, .pointer (some ⟨b1, 0, none⟩)), (6, .pointer (some ⟨b3, 0, none⟩)), (8, .pointer (some ⟨b5, 0, none⟩)), (21, .bool false)] (by first | simp [hg7] | rfl) ?_
    refine OI_cell 40 (.tmp 5) 0 (.slice B ms.length capb) (some 22) (by kernel_rfl) (by kernel_rfl) hb1 (m := 1) (by kernel_rfl) rfl ?_
    refine OI_static 9 [(0, .slice A xs.length cap), (3, .int .i64 at_), (5, .pointer (some ⟨b1, 0, none⟩)), (6, .pointer (some ⟨b3, 0, none⟩)), (8, .pointer (some ⟨b5, 0, none⟩)), (26, .bool (decide (((ms.length : Nat) : Int) > 10000)))] (by kernel_rfl) ?_
    by_cases hg13 : ((ms.length : Nat) : Int) > 10000
    · skip
      refine OI_eq [(0, .slice A xs.length cap), (3, .int .i64 at_), (5, .pointer (some ⟨b1, 0, none⟩)), (6, .pointer (some ⟨b3, 0, none⟩)), (8, .pointer (some ⟨b5, 0, none⟩)), (26, .bool true)] (by first | simp [hg13] | rfl) ?_
      refine OI_static 16 [(0, .slice A xs.length cap), (3, .int .i64 at_), (5, .pointer (some ⟨b1, 0, none⟩)), (6, .pointer (some ⟨b3, 0, none⟩)), (8, .pointer (some ⟨b5, 0, none⟩)), (33, .bool true)] (by kernel_rfl) ?_
      refine OI_end rfl ?_
      refine X_then ?_
      refine V_true rfl ?_
      refine V_seq ?_
      refine V_region ?_
      refine OI_set (m := 1) (kd := false) 4 (.tmp 8) (.const (Value.bool true)) 0 (.bool true) [.bool true] none (by kernel_rfl) (by kernel_rfl) (by kernel_rfl) hb5 (by kernel_rfl) (by kernel_rfl) (by kernel_rfl) (Nat.le_of_ble_eq_true (by kernel_rfl)) (by simp [Value.oneCell']) ?_
      intro w14 hb5_17 hk15 hz16
      replace hb5_17 : Blk w14 b5 [.bool true] 4 := hb5_17
      have hsz18 := Keep.size hk15
      replace hb1 := hb1.keep hk15 (by show ¬ (_ = _); omega)
      have hb1lt := hb1.lt
      replace hb3 := hb3.keep hk15 (by show ¬ (_ = _); omega)
      have hb3lt := hb3.lt
      replace hA := ArgT.keep hA hk15 hA0 (fun k hk hs => by have hs : k = b5 := hs; omega)
      replace hB := ArgT.keep hB hk15 hB0 (fun k hk hs => by have hs : k = b5 := hs; omega)
      replace hK0 := Keep.fresh hK0 hk15 (by intro i hi hs; first | exact hs | exact Or.inl hs | exact Or.inr hs | (exfalso; have hs2 : i = b5 := hs; omega)); have hzhK0 := Keep.size hK0
      refine OI_end rfl ?_
      refine X_then ?_
      refine V_ret ?_
      refine X_ret_then ?_
      exact leave0 (.bool true) (.inl rfl) (res_cell1 (n1 := 1) rfl rfl (by kernel_rfl) hb5_17 ) (⟨rfl, hK0⟩)
    · skip
      refine OI_eq [(0, .slice A xs.length cap), (3, .int .i64 at_), (5, .pointer (some ⟨b1, 0, none⟩)), (6, .pointer (some ⟨b3, 0, none⟩)), (8, .pointer (some ⟨b5, 0, none⟩)), (26, .bool false)] (by first | simp [hg13] | rfl) ?_
      refine OI_cell 3 (.tmp 6) 0 (.int .i64 way) (some 27) (by kernel_rfl) (by kernel_rfl) hb3 (m := 1) (by kernel_rfl) rfl ?_
      refine OI_static 13 [(0, .slice A xs.length cap), (3, .int .i64 at_), (5, .pointer (some ⟨b1, 0, none⟩)), (6, .pointer (some ⟨b3, 0, none⟩)), (8, .pointer (some ⟨b5, 0, none⟩)), (30, .bool (decide (way < 0)))] (by kernel_rfl) ?_
      by_cases hg19 : way < 0
      · skip
        refine OI_eq [(0, .slice A xs.length cap), (3, .int .i64 at_), (5, .pointer (some ⟨b1, 0, none⟩)), (6, .pointer (some ⟨b3, 0, none⟩)), (8, .pointer (some ⟨b5, 0, none⟩)), (30, .bool true)] (by first | simp [hg19] | rfl) ?_
        refine OI_static 16 [(0, .slice A xs.length cap), (3, .int .i64 at_), (5, .pointer (some ⟨b1, 0, none⟩)), (6, .pointer (some ⟨b3, 0, none⟩)), (8, .pointer (some ⟨b5, 0, none⟩)), (33, .bool true)] (by kernel_rfl) ?_
        refine OI_end rfl ?_
        refine X_then ?_
        refine V_true rfl ?_
        refine V_seq ?_
        refine V_region ?_
        refine OI_set (m := 1) (kd := false) 4 (.tmp 8) (.const (Value.bool true)) 0 (.bool true) [.bool true] none (by kernel_rfl) (by kernel_rfl) (by kernel_rfl) hb5 (by kernel_rfl) (by kernel_rfl) (by kernel_rfl) (Nat.le_of_ble_eq_true (by kernel_rfl)) (by simp [Value.oneCell']) ?_
        intro w20 hb5_23 hk21 hz22
        replace hb5_23 : Blk w20 b5 [.bool true] 4 := hb5_23
        have hsz24 := Keep.size hk21
        replace hb1 := hb1.keep hk21 (by show ¬ (_ = _); omega)
        have hb1lt := hb1.lt
        replace hb3 := hb3.keep hk21 (by show ¬ (_ = _); omega)
        have hb3lt := hb3.lt
        replace hA := ArgT.keep hA hk21 hA0 (fun k hk hs => by have hs : k = b5 := hs; omega)
        replace hB := ArgT.keep hB hk21 hB0 (fun k hk hs => by have hs : k = b5 := hs; omega)
        replace hK0 := Keep.fresh hK0 hk21 (by intro i hi hs; first | exact hs | exact Or.inl hs | exact Or.inr hs | (exfalso; have hs2 : i = b5 := hs; omega)); have hzhK0 := Keep.size hK0
        refine OI_end rfl ?_
        refine X_then ?_
        refine V_ret ?_
        refine X_ret_then ?_
        exact leave0 (.bool true) (.inl rfl) (res_cell1 (n1 := 1) rfl rfl (by kernel_rfl) hb5_23 ) (⟨rfl, hK0⟩)
      · skip
        refine OI_eq [(0, .slice A xs.length cap), (3, .int .i64 at_), (5, .pointer (some ⟨b1, 0, none⟩)), (6, .pointer (some ⟨b3, 0, none⟩)), (8, .pointer (some ⟨b5, 0, none⟩)), (30, .bool false)] (by first | simp [hg19] | rfl) ?_
        refine OI_cell 3 (.tmp 6) 0 (.int .i64 way) (some 31) (by kernel_rfl) (by kernel_rfl) hb3 (m := 1) (by kernel_rfl) rfl ?_
        refine OI_static 16 [(0, .slice A xs.length cap), (3, .int .i64 at_), (5, .pointer (some ⟨b1, 0, none⟩)), (6, .pointer (some ⟨b3, 0, none⟩)), (8, .pointer (some ⟨b5, 0, none⟩)), (33, .bool (decide (way > 1)))] (by kernel_rfl) ?_
        refine OI_end rfl ?_
        refine X_then ?_
        refine V_if (way > 1) (by kernel_rfl) (fun hc25 => ?_) (fun hc25 => ?_)
        · skip
          refine V_seq ?_
          refine V_region ?_
          refine OI_set (m := 1) (kd := false) 4 (.tmp 8) (.const (Value.bool true)) 0 (.bool true) [.bool true] none (by kernel_rfl) (by kernel_rfl) (by kernel_rfl) hb5 (by kernel_rfl) (by kernel_rfl) (by kernel_rfl) (Nat.le_of_ble_eq_true (by kernel_rfl)) (by simp [Value.oneCell']) ?_
          intro w26 hb5_29 hk27 hz28
          replace hb5_29 : Blk w26 b5 [.bool true] 4 := hb5_29
          have hsz30 := Keep.size hk27
          replace hb1 := hb1.keep hk27 (by show ¬ (_ = _); omega)
          have hb1lt := hb1.lt
          replace hb3 := hb3.keep hk27 (by show ¬ (_ = _); omega)
          have hb3lt := hb3.lt
          replace hA := ArgT.keep hA hk27 hA0 (fun k hk hs => by have hs : k = b5 := hs; omega)
          replace hB := ArgT.keep hB hk27 hB0 (fun k hk hs => by have hs : k = b5 := hs; omega)
          replace hK0 := Keep.fresh hK0 hk27 (by intro i hi hs; first | exact hs | exact Or.inl hs | exact Or.inr hs | (exfalso; have hs2 : i = b5 := hs; omega)); have hzhK0 := Keep.size hK0
          refine OI_end rfl ?_
          refine X_then ?_
          refine V_ret ?_
          refine X_ret_then ?_
          exact leave0 (.bool true) (.inl rfl) (res_cell1 (n1 := 1) rfl rfl (by kernel_rfl) hb5_29 ) (⟨rfl, hK0⟩)
        · skip
          refine V_skip ?_
          refine X_then ?_
          refine V_seq ?_
          refine V_region ?_
          refine OI_static 1 [(3, .int .i64 at_), (5, .pointer (some ⟨b1, 0, none⟩)), (6, .pointer (some ⟨b3, 0, none⟩)), (8, .pointer (some ⟨b5, 0, none⟩)), (35, .slice A xs.length cap)] (by kernel_rfl) ?_
          refine OI_call { callee := (Callee.value (Operand.func 25)), args := #[(Operand.tmp 35)], argTypes := #[40] } 25 #[.slice A xs.length cap] (some 36) (by kernel_rfl) (by kernel_rfl) (by kernel_rfl) (built_spec A cap xs _ hA (by omega)) ?_
          rintro _ w31 ⟨g1, F1, x1, F2, rfl, ho1, ho2, hk32, hge1, hge2, hd12⟩
          refine ⟨_, rfl, ?_⟩
          have hsz33 := Keep.size hk32
          replace hb1 := hb1.keep hk32 (fun f => f)
          have hb1lt := hb1.lt
          replace hb3 := hb3.keep hk32 (fun f => f)
          have hb3lt := hb3.lt
          replace hb5 := hb5.keep hk32 (fun f => f)
          have hb5lt := hb5.lt
          replace hA := ArgT.keep0 hA hk32
          replace hB := ArgT.keep0 hB hk32
          replace hK0 := Keep.tr hK0 (Keep.ofNone hk32); have hzhK0 := Keep.size hK0
          have own34 : ∀ q, F1 q → w5.heap.size ≤ q ∧ q ≠ b1 ∧ q ≠ b3 ∧ q ≠ b5 := fun q hq => by have h1 := hge1 q hq; omega
          have lt35 := Grd.lt ho1
          have own36 : ∀ q, F2 q → w5.heap.size ≤ q ∧ q ≠ b1 ∧ q ≠ b3 ∧ q ≠ b5 := fun q hq => by have h1 := hge2 q hq; omega
          have lt37 := Rgd.lt ho2
          obtain ⟨hbs, hbl⟩ := bldC_ok xs (min xs.length 100)
          have hg1lt := lt35 _ (Grd.at_ ho1)
          have hx1lt := lt37 _ (Rgd.at_ ho2)
          have hg1ge := hge1 _ (Grd.at_ ho1)
          have hx1ge := hge2 _ (Rgd.at_ ho2)
          have hgx : g1 ≠ x1 := fun he => hd12 _ (Grd.at_ ho1) (he ▸ Rgd.at_ ho2)
          refine OI_static 5 [(3, .int .i64 at_), (5, .pointer (some ⟨b1, 0, none⟩)), (6, .pointer (some ⟨b3, 0, none⟩)), (8, .pointer (some ⟨b5, 0, none⟩)), (37, .pointer (some ⟨g1, 0, none⟩)), (38, .pointer (some ⟨x1, 0, none⟩))] (by kernel_rfl) ?_
          refine OI_alloc 22 (.pointer none) [.pointer none] (some 9) (by kernel_rfl) (by kernel_rfl) (by kernel_rfl) ?_
          intro b38 w38 e38 hb38 k38 z38
          have hsz39 := Keep.size k38
          replace hb1 := hb1.keep k38 (fun f => f)
          have hb1lt := hb1.lt
          replace hb3 := hb3.keep k38 (fun f => f)
          have hb3lt := hb3.lt
          replace hb5 := hb5.keep k38 (fun f => f)
          have hb5lt := hb5.lt
          replace hA := ArgT.keep0 hA k38
          replace hB := ArgT.keep0 hB k38
          replace hK0 := Keep.tr hK0 (Keep.ofNone k38); have hzhK0 := Keep.size hK0
          replace ho1 := Grd.keep ho1 k38 (fun _ _ f => f)
          replace ho2 := Rgd.keep ho2 k38 (fun _ _ f => f)
          have hb38lt := hb38.lt
          refine OI_alloc 46 (.pointer none) [.pointer none] (some 10) (by kernel_rfl) (by kernel_rfl) (by kernel_rfl) ?_
          intro b40 w40 e40 hb40 k40 z40
          have hsz41 := Keep.size k40
          replace hb1 := hb1.keep k40 (fun f => f)
          have hb1lt := hb1.lt
          replace hb3 := hb3.keep k40 (fun f => f)
          have hb3lt := hb3.lt
          replace hb5 := hb5.keep k40 (fun f => f)
          have hb5lt := hb5.lt
          replace hb38 := hb38.keep k40 (fun f => f)
          have hb38lt := hb38.lt
          replace hA := ArgT.keep0 hA k40
          replace hB := ArgT.keep0 hB k40
          replace hK0 := Keep.tr hK0 (Keep.ofNone k40); have hzhK0 := Keep.size hK0
          replace ho1 := Grd.keep ho1 k40 (fun _ _ f => f)
          replace ho2 := Rgd.keep ho2 k40 (fun _ _ f => f)
          have hb40lt := hb40.lt
          refine OI_set (m := 1) (kd := false) 22 (.tmp 9) (.tmp 37) 0 (.pointer (some ⟨g1, 0, none⟩)) [.pointer (some ⟨g1, 0, none⟩)] none (by kernel_rfl) (by kernel_rfl) (by kernel_rfl) hb38 (by kernel_rfl) (by kernel_rfl) (by kernel_rfl) (Nat.le_of_ble_eq_true (by kernel_rfl)) (by simp [Value.oneCell']) ?_
          intro w42 hb38_45 hk43 hz44
          replace hb38_45 : Blk w42 b38 [.pointer (some ⟨g1, 0, none⟩)] 22 := hb38_45
          have hsz46 := Keep.size hk43
          replace hb1 := hb1.keep hk43 (by show ¬ (_ = _); omega)
          have hb1lt := hb1.lt
          replace hb3 := hb3.keep hk43 (by show ¬ (_ = _); omega)
          have hb3lt := hb3.lt
          replace hb5 := hb5.keep hk43 (by show ¬ (_ = _); omega)
          have hb5lt := hb5.lt
          replace hb40 := hb40.keep hk43 (by show ¬ (_ = _); omega)
          have hb40lt := hb40.lt
          replace hA := ArgT.keep hA hk43 hA0 (fun k hk hs => by have hs : k = b38 := hs; omega)
          replace hB := ArgT.keep hB hk43 hB0 (fun k hk hs => by have hs : k = b38 := hs; omega)
          replace hK0 := Keep.fresh hK0 hk43 (by intro i hi hs; first | exact hs | exact Or.inl hs | exact Or.inr hs | (exfalso; have hs2 : i = b38 := hs; omega)); have hzhK0 := Keep.size hK0
          replace ho1 := Grd.keep ho1 hk43 (fun q hq hs => by have hs : q = b38 := hs; have g0 := own34 q hq; have g1 := lt35 q hq; omega)
          replace ho2 := Rgd.keep ho2 hk43 (fun q hq hs => by have hs : q = b38 := hs; have g0 := own36 q hq; have g1 := lt37 q hq; omega)
          refine OI_set (m := 1) (kd := false) 46 (.tmp 10) (.tmp 38) 0 (.pointer (some ⟨x1, 0, none⟩)) [.pointer (some ⟨x1, 0, none⟩)] none (by kernel_rfl) (by kernel_rfl) (by kernel_rfl) hb40 (by kernel_rfl) (by kernel_rfl) (by kernel_rfl) (Nat.le_of_ble_eq_true (by kernel_rfl)) (by simp [Value.oneCell']) ?_
          intro w47 hb40_50 hk48 hz49
          replace hb40_50 : Blk w47 b40 [.pointer (some ⟨x1, 0, none⟩)] 46 := hb40_50
          have hsz51 := Keep.size hk48
          replace hb1 := hb1.keep hk48 (by show ¬ (_ = _); omega)
          have hb1lt := hb1.lt
          replace hb3 := hb3.keep hk48 (by show ¬ (_ = _); omega)
          have hb3lt := hb3.lt
          replace hb5 := hb5.keep hk48 (by show ¬ (_ = _); omega)
          have hb5lt := hb5.lt
          replace hb38_45 := hb38_45.keep hk48 (by show ¬ (_ = _); omega)
          have hb38lt := hb38_45.lt
          replace hA := ArgT.keep hA hk48 hA0 (fun k hk hs => by have hs : k = b40 := hs; omega)
          replace hB := ArgT.keep hB hk48 hB0 (fun k hk hs => by have hs : k = b40 := hs; omega)
          replace hK0 := Keep.fresh hK0 hk48 (by intro i hi hs; first | exact hs | exact Or.inl hs | exact Or.inr hs | (exfalso; have hs2 : i = b40 := hs; omega)); have hzhK0 := Keep.size hK0
          replace ho1 := Grd.keep ho1 hk48 (fun q hq hs => by have hs : q = b40 := hs; have g0 := own34 q hq; have g1 := lt35 q hq; omega)
          replace ho2 := Rgd.keep ho2 hk48 (fun q hq hs => by have hs : q = b40 := hs; have g0 := own36 q hq; have g1 := lt37 q hq; omega)
          refine OI_end rfl ?_
          refine X_then ?_
          refine V_seq ?_
          refine V_seq ?_
          refine V_region ?_
          refine OI_cell 22 (.tmp 9) 0 (.pointer (some ⟨g1, 0, none⟩)) (some 39) (by kernel_rfl) (by kernel_rfl) hb38_45 (m := 1) (by kernel_rfl) rfl ?_
          refine OI_static 2 [(3, .int .i64 at_), (5, .pointer (some ⟨b1, 0, none⟩)), (6, .pointer (some ⟨b3, 0, none⟩)), (8, .pointer (some ⟨b5, 0, none⟩)), (9, .pointer (some ⟨b38, 0, none⟩)), (10, .pointer (some ⟨b40, 0, none⟩)), (40, .bool false)] (by kernel_rfl) ?_
          refine OI_end rfl ?_
          refine X_then ?_
          refine V_false rfl ?_
          refine V_skip ?_
          refine X_then ?_
          refine V_seq ?_
          refine V_region ?_
          refine OI_cell 46 (.tmp 10) 0 (.pointer (some ⟨x1, 0, none⟩)) (some 41) (by kernel_rfl) (by kernel_rfl) hb40_50 (m := 1) (by kernel_rfl) rfl ?_
          refine OI_static 2 [(3, .int .i64 at_), (5, .pointer (some ⟨b1, 0, none⟩)), (6, .pointer (some ⟨b3, 0, none⟩)), (8, .pointer (some ⟨b5, 0, none⟩)), (9, .pointer (some ⟨b38, 0, none⟩)), (10, .pointer (some ⟨b40, 0, none⟩)), (41, .pointer (some ⟨x1, 0, none⟩)), (42, .int .i64 at_)] (by kernel_rfl) ?_
          refine OI_call { callee := (Callee.value (Operand.func 26)), args := #[(Operand.tmp 41), (Operand.tmp 42)], argTypes := #[46, 3] } 26 #[.pointer (some ⟨x1, 0, none⟩), .int .i64 at_] (some 43) (by kernel_rfl) (by kernel_rfl) (by kernel_rfl) (rrow_spec F2 x1 (bldC xs (min xs.length 100)) at_ _ ho2) ?_
          rintro _ w52 ⟨P54, capP54, rfl, hAP54, hk53, owP54⟩
          refine ⟨_, rfl, ?_⟩
          have hsz55 := Keep.size hk53
          replace hb1 := hb1.keep hk53 (fun f => f)
          have hb1lt := hb1.lt
          replace hb3 := hb3.keep hk53 (fun f => f)
          have hb3lt := hb3.lt
          replace hb5 := hb5.keep hk53 (fun f => f)
          have hb5lt := hb5.lt
          replace hb38_45 := hb38_45.keep hk53 (fun f => f)
          have hb38lt := hb38_45.lt
          replace hb40_50 := hb40_50.keep hk53 (fun f => f)
          have hb40lt := hb40_50.lt
          replace hA := ArgT.keep0 hA hk53
          replace hB := ArgT.keep0 hB hk53
          replace hK0 := Keep.tr hK0 (Keep.ofNone hk53); have hzhK0 := Keep.size hK0
          replace ho1 := Grd.keep ho1 hk53 (fun _ _ f => f)
          replace ho2 := Rgd.keep ho2 hk53 (fun _ _ f => f)
          have ltP54 := SlT.lt hAP54
          refine OI_alloc 47 (.slice none 0 0) [.slice none 0 0] (some 11) (by kernel_rfl) (by kernel_rfl) (by kernel_rfl) ?_
          intro b56 w56 e56 hb56 k56 z56
          have hsz57 := Keep.size k56
          replace hb1 := hb1.keep k56 (fun f => f)
          have hb1lt := hb1.lt
          replace hb3 := hb3.keep k56 (fun f => f)
          have hb3lt := hb3.lt
          replace hb5 := hb5.keep k56 (fun f => f)
          have hb5lt := hb5.lt
          replace hb38_45 := hb38_45.keep k56 (fun f => f)
          have hb38lt := hb38_45.lt
          replace hb40_50 := hb40_50.keep k56 (fun f => f)
          have hb40lt := hb40_50.lt
          replace hA := ArgT.keep0 hA k56
          replace hB := ArgT.keep0 hB k56
          replace hAP54 := SlT.keep0 hAP54 k56
          replace hK0 := Keep.tr hK0 (Keep.ofNone k56); have hzhK0 := Keep.size hK0
          replace ho1 := Grd.keep ho1 k56 (fun _ _ f => f)
          replace ho2 := Rgd.keep ho2 k56 (fun _ _ f => f)
          have hb56lt := hb56.lt
          refine OI_set (m := 1) (kd := false) 47 (.tmp 11) (.tmp 43) 0 (.slice P54 (((bldC xs (min xs.length 100)).filter (fun c : Ci => c.a == at_)).length) capP54) [.slice P54 (((bldC xs (min xs.length 100)).filter (fun c : Ci => c.a == at_)).length) capP54] none (by kernel_rfl) (by kernel_rfl) (by kernel_rfl) hb56 (by kernel_rfl) (by kernel_rfl) (by kernel_rfl) (Nat.le_of_ble_eq_true (by kernel_rfl)) (by simp [Value.oneCell']) ?_
          intro w58 hb56_61 hk59 hz60
          replace hb56_61 : Blk w58 b56 [.slice P54 (((bldC xs (min xs.length 100)).filter (fun c : Ci => c.a == at_)).length) capP54] 47 := hb56_61
          have hsz62 := Keep.size hk59
          replace hb1 := hb1.keep hk59 (by show ¬ (_ = _); omega)
          have hb1lt := hb1.lt
          replace hb3 := hb3.keep hk59 (by show ¬ (_ = _); omega)
          have hb3lt := hb3.lt
          replace hb5 := hb5.keep hk59 (by show ¬ (_ = _); omega)
          have hb5lt := hb5.lt
          replace hb38_45 := hb38_45.keep hk59 (by show ¬ (_ = _); omega)
          have hb38lt := hb38_45.lt
          replace hb40_50 := hb40_50.keep hk59 (by show ¬ (_ = _); omega)
          have hb40lt := hb40_50.lt
          replace hA := ArgT.keep hA hk59 hA0 (fun k hk hs => by have hs : k = b56 := hs; omega)
          replace hB := ArgT.keep hB hk59 hB0 (fun k hk hs => by have hs : k = b56 := hs; omega)
          replace hAP54 := SlT.keep hAP54 hk59 (fun q hq hs => by have hs : q = b56 := hs; have g0 := owP54 q hq; have g1 := ltP54 q hq; omega)
          replace hK0 := Keep.fresh hK0 hk59 (by intro i hi hs; first | exact hs | exact Or.inl hs | exact Or.inr hs | (exfalso; have hs2 : i = b56 := hs; omega)); have hzhK0 := Keep.size hK0
          replace ho1 := Grd.keep ho1 hk59 (fun q hq hs => by have hs : q = b56 := hs; have g0 := own34 q hq; have g1 := lt35 q hq; omega)
          replace ho2 := Rgd.keep ho2 hk59 (fun q hq hs => by have hs : q = b56 := hs; have g0 := own36 q hq; have g1 := lt37 q hq; omega)
          refine OI_end rfl ?_
          refine X_then ?_
          refine V_seq ?_
          refine V_region ?_
          refine OI_cell 22 (.tmp 9) 0 (.pointer (some ⟨g1, 0, none⟩)) (some 44) (by kernel_rfl) (by kernel_rfl) hb38_45 (m := 1) (by kernel_rfl) rfl ?_
          refine OI_static 2 [(3, .int .i64 at_), (5, .pointer (some ⟨b1, 0, none⟩)), (6, .pointer (some ⟨b3, 0, none⟩)), (8, .pointer (some ⟨b5, 0, none⟩)), (9, .pointer (some ⟨b38, 0, none⟩)), (10, .pointer (some ⟨b40, 0, none⟩)), (11, .pointer (some ⟨b56, 0, none⟩)), (44, .pointer (some ⟨g1, 0, none⟩)), (45, .int .i64 at_)] (by kernel_rfl) ?_
          refine OI_call { callee := (Callee.value (Operand.func 12)), args := #[(Operand.tmp 44), (Operand.tmp 45)], argTypes := #[22, 3] } 12 #[.pointer (some ⟨g1, 0, none⟩), .int .i64 at_] (some 46) (by kernel_rfl) (by kernel_rfl) (by kernel_rfl) (row_spec _ rfl at_ _) ?_
          rintro _ w63 ⟨bg65, bs66, bn67, rfl, hbg65, hbs66, hbn67, hk64, hgebg65, hgebs66, hgebn67⟩
          refine ⟨_, rfl, ?_⟩
          have hsz68 := Keep.size hk64
          replace hb1 := hb1.keep hk64 (fun f => f)
          have hb1lt := hb1.lt
          replace hb3 := hb3.keep hk64 (fun f => f)
          have hb3lt := hb3.lt
          replace hb5 := hb5.keep hk64 (fun f => f)
          have hb5lt := hb5.lt
          replace hb38_45 := hb38_45.keep hk64 (fun f => f)
          have hb38lt := hb38_45.lt
          replace hb40_50 := hb40_50.keep hk64 (fun f => f)
          have hb40lt := hb40_50.lt
          replace hb56_61 := hb56_61.keep hk64 (fun f => f)
          have hb56lt := hb56_61.lt
          replace hA := ArgT.keep0 hA hk64
          replace hB := ArgT.keep0 hB hk64
          replace hAP54 := SlT.keep0 hAP54 hk64
          replace hK0 := Keep.tr hK0 (Keep.ofNone hk64); have hzhK0 := Keep.size hK0
          replace ho1 := Grd.keep ho1 hk64 (fun _ _ f => f)
          replace ho2 := Rgd.keep ho2 hk64 (fun _ _ f => f)
          have hbg65lt := hbg65.lt
          have hbs66lt := hbs66.lt
          have hbn67lt := hbn67.lt
          refine OI_static 4 [(3, .int .i64 at_), (5, .pointer (some ⟨b1, 0, none⟩)), (6, .pointer (some ⟨b3, 0, none⟩)), (8, .pointer (some ⟨b5, 0, none⟩)), (9, .pointer (some ⟨b38, 0, none⟩)), (10, .pointer (some ⟨b40, 0, none⟩)), (11, .pointer (some ⟨b56, 0, none⟩)), (12, .func (.func 47) #[] #[.pointer (some ⟨bg65, 0, none⟩), .pointer (some ⟨bs66, 0, none⟩), .pointer (some ⟨bn67, 0, none⟩)])] (by kernel_rfl) ?_
          refine OI_end rfl ?_
          refine X_then ?_
          refine V_seq ?_
          refine V_seq ?_
          refine V_region ?_
          refine OI_cell 3 (.tmp 6) 0 (.int .i64 way) (some 47) (by kernel_rfl) (by kernel_rfl) hb3 (m := 1) (by kernel_rfl) rfl ?_
          refine OI_static 2 [(3, .int .i64 at_), (5, .pointer (some ⟨b1, 0, none⟩)), (6, .pointer (some ⟨b3, 0, none⟩)), (8, .pointer (some ⟨b5, 0, none⟩)), (9, .pointer (some ⟨b38, 0, none⟩)), (10, .pointer (some ⟨b40, 0, none⟩)), (11, .pointer (some ⟨b56, 0, none⟩)), (12, .func (.func 47) #[] #[.pointer (some ⟨bg65, 0, none⟩), .pointer (some ⟨bs66, 0, none⟩), .pointer (some ⟨bn67, 0, none⟩)]), (48, .bool (decide (way = 1)))] (by kernel_rfl) ?_
          refine OI_end rfl ?_
          refine X_then ?_
          refine V_if (way = 1) (by kernel_rfl) (fun hc69 => ?_) (fun hc69 => ?_)
          · skip
            refine V_seq ?_
            refine V_region ?_
            refine OI_cell 46 (.tmp 10) 0 (.pointer (some ⟨x1, 0, none⟩)) (some 49) (by kernel_rfl) (by kernel_rfl) hb40_50 (m := 1) (by kernel_rfl) rfl ?_
            refine OI_static 2 [(3, .int .i64 at_), (5, .pointer (some ⟨b1, 0, none⟩)), (6, .pointer (some ⟨b3, 0, none⟩)), (8, .pointer (some ⟨b5, 0, none⟩)), (9, .pointer (some ⟨b38, 0, none⟩)), (10, .pointer (some ⟨b40, 0, none⟩)), (11, .pointer (some ⟨b56, 0, none⟩)), (49, .pointer (some ⟨x1, 0, none⟩)), (50, .int .i64 at_)] (by kernel_rfl) ?_
            refine OI_call { callee := (Callee.value (Operand.func 27)), args := #[(Operand.tmp 49), (Operand.tmp 50)], argTypes := #[46, 3] } 27 #[.pointer (some ⟨x1, 0, none⟩), .int .i64 at_] (some 51) (by kernel_rfl) (by kernel_rfl) (by kernel_rfl) (rcolumn_spec F2 x1 (bldC xs (min xs.length 100)) at_ _ ho2) ?_
            rintro _ w70 ⟨P72, capP72, rfl, hAP72, hk71, owP72⟩
            refine ⟨_, rfl, ?_⟩
            have hsz73 := Keep.size hk71
            replace hb1 := hb1.keep hk71 (fun f => f)
            have hb1lt := hb1.lt
            replace hb3 := hb3.keep hk71 (fun f => f)
            have hb3lt := hb3.lt
            replace hb5 := hb5.keep hk71 (fun f => f)
            have hb5lt := hb5.lt
            replace hb38_45 := hb38_45.keep hk71 (fun f => f)
            have hb38lt := hb38_45.lt
            replace hb40_50 := hb40_50.keep hk71 (fun f => f)
            have hb40lt := hb40_50.lt
            replace hb56_61 := hb56_61.keep hk71 (fun f => f)
            have hb56lt := hb56_61.lt
            replace hbg65 := hbg65.keep hk71 (fun f => f)
            have hbg65lt := hbg65.lt
            replace hbs66 := hbs66.keep hk71 (fun f => f)
            have hbs66lt := hbs66.lt
            replace hbn67 := hbn67.keep hk71 (fun f => f)
            have hbn67lt := hbn67.lt
            replace hA := ArgT.keep0 hA hk71
            replace hB := ArgT.keep0 hB hk71
            replace hAP54 := SlT.keep0 hAP54 hk71
            replace hK0 := Keep.tr hK0 (Keep.ofNone hk71); have hzhK0 := Keep.size hK0
            replace ho1 := Grd.keep ho1 hk71 (fun _ _ f => f)
            replace ho2 := Rgd.keep ho2 hk71 (fun _ _ f => f)
            have ltP72 := SlT.lt hAP72
            refine OI_set (m := 1) (kd := false) 47 (.tmp 11) (.tmp 51) 0 (.slice P72 (((bldC xs (min xs.length 100)).filter (fun c : Ci => c.b == at_)).length) capP72) [.slice P72 (((bldC xs (min xs.length 100)).filter (fun c : Ci => c.b == at_)).length) capP72] none (by kernel_rfl) (by kernel_rfl) (by kernel_rfl) hb56_61 (by kernel_rfl) (by kernel_rfl) (by kernel_rfl) (Nat.le_of_ble_eq_true (by kernel_rfl)) (by simp [Value.oneCell']) ?_
            intro w74 hb56_77 hk75 hz76
            replace hb56_77 : Blk w74 b56 [.slice P72 (((bldC xs (min xs.length 100)).filter (fun c : Ci => c.b == at_)).length) capP72] 47 := hb56_77
            have hsz78 := Keep.size hk75
            replace hb1 := hb1.keep hk75 (by show ¬ (_ = _); omega)
            have hb1lt := hb1.lt
            replace hb3 := hb3.keep hk75 (by show ¬ (_ = _); omega)
            have hb3lt := hb3.lt
            replace hb5 := hb5.keep hk75 (by show ¬ (_ = _); omega)
            have hb5lt := hb5.lt
            replace hb38_45 := hb38_45.keep hk75 (by show ¬ (_ = _); omega)
            have hb38lt := hb38_45.lt
            replace hb40_50 := hb40_50.keep hk75 (by show ¬ (_ = _); omega)
            have hb40lt := hb40_50.lt
            replace hbg65 := hbg65.keep hk75 (by show ¬ (_ = _); omega)
            have hbg65lt := hbg65.lt
            replace hbs66 := hbs66.keep hk75 (by show ¬ (_ = _); omega)
            have hbs66lt := hbs66.lt
            replace hbn67 := hbn67.keep hk75 (by show ¬ (_ = _); omega)
            have hbn67lt := hbn67.lt
            replace hA := ArgT.keep hA hk75 hA0 (fun k hk hs => by have hs : k = b56 := hs; omega)
            replace hB := ArgT.keep hB hk75 hB0 (fun k hk hs => by have hs : k = b56 := hs; omega)
            replace hAP54 := SlT.keep hAP54 hk75 (fun q hq hs => by have hs : q = b56 := hs; have g0 := owP54 q hq; have g1 := ltP54 q hq; omega)
            replace hAP72 := SlT.keep hAP72 hk75 (fun q hq hs => by have hs : q = b56 := hs; have g0 := owP72 q hq; have g1 := ltP72 q hq; omega)
            replace hK0 := Keep.fresh hK0 hk75 (by intro i hi hs; first | exact hs | exact Or.inl hs | exact Or.inr hs | (exfalso; have hs2 : i = b56 := hs; omega)); have hzhK0 := Keep.size hK0
            replace ho1 := Grd.keep ho1 hk75 (fun q hq hs => by have hs : q = b56 := hs; have g0 := own34 q hq; have g1 := lt35 q hq; omega)
            replace ho2 := Rgd.keep ho2 hk75 (fun q hq hs => by have hs : q = b56 := hs; have g0 := own36 q hq; have g1 := lt37 q hq; omega)
            refine OI_end rfl ?_
            refine X_then ?_
            refine V_region ?_
            refine OI_cell 22 (.tmp 9) 0 (.pointer (some ⟨g1, 0, none⟩)) (some 52) (by kernel_rfl) (by kernel_rfl) hb38_45 (m := 1) (by kernel_rfl) rfl ?_
            refine OI_static 2 [(5, .pointer (some ⟨b1, 0, none⟩)), (6, .pointer (some ⟨b3, 0, none⟩)), (8, .pointer (some ⟨b5, 0, none⟩)), (9, .pointer (some ⟨b38, 0, none⟩)), (10, .pointer (some ⟨b40, 0, none⟩)), (11, .pointer (some ⟨b56, 0, none⟩)), (52, .pointer (some ⟨g1, 0, none⟩)), (53, .int .i64 at_)] (by kernel_rfl) ?_
            refine OI_call { callee := (Callee.value (Operand.func 13)), args := #[(Operand.tmp 52), (Operand.tmp 53)], argTypes := #[22, 3] } 13 #[.pointer (some ⟨g1, 0, none⟩), .int .i64 at_] (some 54) (by kernel_rfl) (by kernel_rfl) (by kernel_rfl) (column_spec _ rfl at_ _) ?_
            rintro _ w79 ⟨bg81, bs82, bn83, rfl, hbg81, hbs82, hbn83, hk80, hgebg81, hgebs82, hgebn83⟩
            refine ⟨_, rfl, ?_⟩
            have hsz84 := Keep.size hk80
            replace hb1 := hb1.keep hk80 (fun f => f)
            have hb1lt := hb1.lt
            replace hb3 := hb3.keep hk80 (fun f => f)
            have hb3lt := hb3.lt
            replace hb5 := hb5.keep hk80 (fun f => f)
            have hb5lt := hb5.lt
            replace hb38_45 := hb38_45.keep hk80 (fun f => f)
            have hb38lt := hb38_45.lt
            replace hb40_50 := hb40_50.keep hk80 (fun f => f)
            have hb40lt := hb40_50.lt
            replace hb56_77 := hb56_77.keep hk80 (fun f => f)
            have hb56lt := hb56_77.lt
            replace hbg65 := hbg65.keep hk80 (fun f => f)
            have hbg65lt := hbg65.lt
            replace hbs66 := hbs66.keep hk80 (fun f => f)
            have hbs66lt := hbs66.lt
            replace hbn67 := hbn67.keep hk80 (fun f => f)
            have hbn67lt := hbn67.lt
            replace hA := ArgT.keep0 hA hk80
            replace hB := ArgT.keep0 hB hk80
            replace hAP54 := SlT.keep0 hAP54 hk80
            replace hAP72 := SlT.keep0 hAP72 hk80
            replace hK0 := Keep.tr hK0 (Keep.ofNone hk80); have hzhK0 := Keep.size hK0
            replace ho1 := Grd.keep ho1 hk80 (fun _ _ f => f)
            replace ho2 := Rgd.keep ho2 hk80 (fun _ _ f => f)
            have hbg81lt := hbg81.lt
            have hbs82lt := hbs82.lt
            have hbn83lt := hbn83.lt
            refine OI_static 4 [(5, .pointer (some ⟨b1, 0, none⟩)), (6, .pointer (some ⟨b3, 0, none⟩)), (8, .pointer (some ⟨b5, 0, none⟩)), (9, .pointer (some ⟨b38, 0, none⟩)), (10, .pointer (some ⟨b40, 0, none⟩)), (11, .pointer (some ⟨b56, 0, none⟩)), (12, .func (.func 47) #[] #[.pointer (some ⟨bg81, 0, none⟩), .pointer (some ⟨bs82, 0, none⟩), .pointer (some ⟨bn83, 0, none⟩)])] (by kernel_rfl) ?_
            refine OI_end rfl ?_
            refine X_then ?_
            refine V_seq ?_
            refine V_seq ?_
            refine V_region ?_
            refine OI_static 2 [(5, .pointer (some ⟨b1, 0, none⟩)), (6, .pointer (some ⟨b3, 0, none⟩)), (8, .pointer (some ⟨b5, 0, none⟩)), (9, .pointer (some ⟨b38, 0, none⟩)), (10, .pointer (some ⟨b40, 0, none⟩)), (11, .pointer (some ⟨b56, 0, none⟩)), (12, .func (.func 47) #[] #[.pointer (some ⟨bg81, 0, none⟩), .pointer (some ⟨bs82, 0, none⟩), .pointer (some ⟨bn83, 0, none⟩)]), (56, .bool false)] (by kernel_rfl) ?_
            refine OI_end rfl ?_
            refine X_then ?_
            refine V_false rfl ?_
            refine V_skip ?_
            refine X_then ?_
            refine V_seq ?_
            refine V_region ?_
            refine OI_alloc 3 (.int .i64 0) [.int .i64 0] (some 13) (by kernel_rfl) (by kernel_rfl) (by kernel_rfl) ?_
            intro b85 w85 e85 hb85 k85 z85
            have hsz86 := Keep.size k85
            replace hb1 := hb1.keep k85 (fun f => f)
            have hb1lt := hb1.lt
            replace hb3 := hb3.keep k85 (fun f => f)
            have hb3lt := hb3.lt
            replace hb5 := hb5.keep k85 (fun f => f)
            have hb5lt := hb5.lt
            replace hb38_45 := hb38_45.keep k85 (fun f => f)
            have hb38lt := hb38_45.lt
            replace hb40_50 := hb40_50.keep k85 (fun f => f)
            have hb40lt := hb40_50.lt
            replace hb56_77 := hb56_77.keep k85 (fun f => f)
            have hb56lt := hb56_77.lt
            replace hbg65 := hbg65.keep k85 (fun f => f)
            have hbg65lt := hbg65.lt
            replace hbs66 := hbs66.keep k85 (fun f => f)
            have hbs66lt := hbs66.lt
            replace hbn67 := hbn67.keep k85 (fun f => f)
            have hbn67lt := hbn67.lt
            replace hbg81 := hbg81.keep k85 (fun f => f)
            have hbg81lt := hbg81.lt
            replace hbs82 := hbs82.keep k85 (fun f => f)
            have hbs82lt := hbs82.lt
            replace hbn83 := hbn83.keep k85 (fun f => f)
            have hbn83lt := hbn83.lt
            replace hA := ArgT.keep0 hA k85
            replace hB := ArgT.keep0 hB k85
            replace hAP54 := SlT.keep0 hAP54 k85
            replace hAP72 := SlT.keep0 hAP72 k85
            replace hK0 := Keep.tr hK0 (Keep.ofNone k85); have hzhK0 := Keep.size hK0
            replace ho1 := Grd.keep ho1 k85 (fun _ _ f => f)
            replace ho2 := Rgd.keep ho2 k85 (fun _ _ f => f)
            have hb85lt := hb85.lt
            refine OI_set (m := 1) (kd := false) 3 (.tmp 13) (.const (Value.int IntKind.i64 0)) 0 (.int .i64 0) [.int .i64 0] none (by kernel_rfl) (by kernel_rfl) (by kernel_rfl) hb85 (by kernel_rfl) (by kernel_rfl) (by kernel_rfl) (Nat.le_of_ble_eq_true (by kernel_rfl)) (by simp [Value.oneCell']) ?_
            intro w87 hb85_90 hk88 hz89
            replace hb85_90 : Blk w87 b85 [.int .i64 0] 3 := hb85_90
            have hsz91 := Keep.size hk88
            replace hb1 := hb1.keep hk88 (by show ¬ (_ = _); omega)
            have hb1lt := hb1.lt
            replace hb3 := hb3.keep hk88 (by show ¬ (_ = _); omega)
            have hb3lt := hb3.lt
            replace hb5 := hb5.keep hk88 (by show ¬ (_ = _); omega)
            have hb5lt := hb5.lt
            replace hb38_45 := hb38_45.keep hk88 (by show ¬ (_ = _); omega)
            have hb38lt := hb38_45.lt
            replace hb40_50 := hb40_50.keep hk88 (by show ¬ (_ = _); omega)
            have hb40lt := hb40_50.lt
            replace hb56_77 := hb56_77.keep hk88 (by show ¬ (_ = _); omega)
            have hb56lt := hb56_77.lt
            replace hbg65 := hbg65.keep hk88 (by show ¬ (_ = _); omega)
            have hbg65lt := hbg65.lt
            replace hbs66 := hbs66.keep hk88 (by show ¬ (_ = _); omega)
            have hbs66lt := hbs66.lt
            replace hbn67 := hbn67.keep hk88 (by show ¬ (_ = _); omega)
            have hbn67lt := hbn67.lt
            replace hbg81 := hbg81.keep hk88 (by show ¬ (_ = _); omega)
            have hbg81lt := hbg81.lt
            replace hbs82 := hbs82.keep hk88 (by show ¬ (_ = _); omega)
            have hbs82lt := hbs82.lt
            replace hbn83 := hbn83.keep hk88 (by show ¬ (_ = _); omega)
            have hbn83lt := hbn83.lt
            replace hA := ArgT.keep hA hk88 hA0 (fun k hk hs => by have hs : k = b85 := hs; omega)
            replace hB := ArgT.keep hB hk88 hB0 (fun k hk hs => by have hs : k = b85 := hs; omega)
            replace hAP54 := SlT.keep hAP54 hk88 (fun q hq hs => by have hs : q = b85 := hs; have g0 := owP54 q hq; have g1 := ltP54 q hq; omega)
            replace hAP72 := SlT.keep hAP72 hk88 (fun q hq hs => by have hs : q = b85 := hs; have g0 := owP72 q hq; have g1 := ltP72 q hq; omega)
            replace hK0 := Keep.fresh hK0 hk88 (by intro i hi hs; first | exact hs | exact Or.inl hs | exact Or.inr hs | (exfalso; have hs2 : i = b85 := hs; omega)); have hzhK0 := Keep.size hK0
            replace ho1 := Grd.keep ho1 hk88 (fun q hq hs => by have hs : q = b85 := hs; have g0 := own34 q hq; have g1 := lt35 q hq; omega)
            replace ho2 := Rgd.keep ho2 hk88 (fun q hq hs => by have hs : q = b85 := hs; have g0 := own36 q hq; have g1 := lt37 q hq; omega)
            refine OI_end rfl ?_
            refine X_then ?_
            refine V_seq ?_
            refine V_seq ?_
            refine V_region ?_
            refine OI_static 1 [(5, .pointer (some ⟨b1, 0, none⟩)), (6, .pointer (some ⟨b3, 0, none⟩)), (8, .pointer (some ⟨b5, 0, none⟩)), (9, .pointer (some ⟨b38, 0, none⟩)), (10, .pointer (some ⟨b40, 0, none⟩)), (11, .pointer (some ⟨b56, 0, none⟩)), (13, .pointer (some ⟨b85, 0, none⟩)), (57, .func (.func 47) #[] #[.pointer (some ⟨bg81, 0, none⟩), .pointer (some ⟨bs82, 0, none⟩), .pointer (some ⟨bn83, 0, none⟩)])] (by kernel_rfl) ?_
            refine OI_end rfl ?_
            refine X_then ?_
            refine V_block ?_
            have owz92P54 : ∀ q, inA P54 q → q ≠ b1 ∧ q ≠ b3 ∧ q ≠ b5 ∧ q ≠ b38 ∧ q ≠ b40 ∧ q ≠ b56 ∧ q ≠ bg65 ∧ q ≠ bs66 ∧ q ≠ bn67 ∧ q ≠ bg81 ∧ q ≠ bs82 ∧ q ≠ bn83 ∧ q ≠ b85 := fun q hq => by have h1 := owP54 q hq; have h2 := ltP54 q hq; omega
            have owy92P54 := fun q hq => And.intro (owP54 q hq) (owz92P54 q hq)
            have owz92P72 : ∀ q, inA P72 q → q ≠ b1 ∧ q ≠ b3 ∧ q ≠ b5 ∧ q ≠ b38 ∧ q ≠ b40 ∧ q ≠ b56 ∧ q ≠ bg65 ∧ q ≠ bs66 ∧ q ≠ bn67 ∧ q ≠ bg81 ∧ q ≠ bs82 ∧ q ≠ bn83 ∧ q ≠ b85 := fun q hq => by have h1 := owP72 q hq; have h2 := ltP72 q hq; omega
            have owy92P72 := fun q hq => And.intro (owP72 q hq) (owz92P72 q hq)
            obtain ⟨hs92, hlen92, hFg92, hFlt92, A92, cap92, hat92, hAF92⟩ := id ho1
            have hA92 := hat92.sl
            have ltA92 := SlT.lt hA92
            have owA92 : ∀ q, inA A92 q → w5.heap.size ≤ q ∧ q ≠ b1 ∧ q ≠ b3 ∧ q ≠ b5 ∧ q ≠ b38 ∧ q ≠ b40 ∧ q ≠ b56 ∧ q ≠ bg65 ∧ q ≠ bs66 ∧ q ≠ bn67 ∧ q ≠ bg81 ∧ q ≠ bs82 ∧ q ≠ bn83 ∧ q ≠ b85 ∧ q ≠ g1 := fun q hq => by have h1 := own34 q (hAF92 q hq); have h2 := lt35 q (hAF92 q hq); have h3 : q ≠ g1 := fun he => hat92.off (he ▸ hq); omega
            have owx92 : ∀ q, inA A92 q → q ≠ x1 := fun q hq he => hd12 q (hAF92 q hq) (he ▸ Rgd.at_ ho2)
            have owb92 := fun q hq => And.intro (owA92 q hq) (owx92 q hq)
            refine V_pick [(5, .pointer (some ⟨b1, 0, none⟩)), (6, .pointer (some ⟨b3, 0, none⟩)), (8, .pointer (some ⟨b5, 0, none⟩)), (9, .pointer (some ⟨b38, 0, none⟩)), (10, .pointer (some ⟨b40, 0, none⟩)), (11, .pointer (some ⟨b56, 0, none⟩)), (13, .pointer (some ⟨b85, 0, none⟩)), (57, .func (.func 47) #[] #[.pointer (some ⟨bg81, 0, none⟩), .pointer (some ⟨bs82, 0, none⟩), .pointer (some ⟨bn83, 0, none⟩)])] rfl ?_
            have hN0 : w.heap.size ≤ w87.heap.size := hzhK0
            refine V_range2 (gf := 47) (caps := #[.pointer (some ⟨bg81, 0, none⟩), .pointer (some ⟨bs82, 0, none⟩), .pointer (some ⟨bn83, 0, none⟩)]) (m := (colL at_ (bldC xs (min xs.length 100))).length) (by kernel_rfl) (by kernel_rfl) (by kernel_rfl) (along1_iter1 bg81 bs82 bn83 g1 cap92 A92 (bldC xs (min xs.length 100)) at_ (by omega)) (⟨hbg81, hat92, ⟨hbs82, hbn83, hA92⟩⟩) (fun W W' h k => ⟨h.1.quiet k, h.2.1.quiet k, h.2.2.quiet k⟩) (enc2_size _) (fun M1 k W => ∃ F1k : Nat → Prop, ∃ F2k : Nat → Prop, (Blk W b1 [.slice B ms.length capb] 40) ∧ (Blk W b3 [.int .i64 way] 3) ∧ (Blk W b5 [.bool false] 4) ∧ (Blk W b38 [.pointer (some ⟨g1, 0, none⟩)] 22) ∧ (Blk W b40 [.pointer (some ⟨x1, 0, none⟩)] 46) ∧ (Blk W b56 [.slice P72 (((bldC xs (min xs.length 100)).filter (fun c : Ci => c.b == at_)).length) capP72] 47) ∧ (Blk W bg65 [.pointer (some ⟨g1, 0, none⟩)] 22) ∧ (Blk W bs66 [.int .i64 0] 3) ∧ (Blk W bn67 [.int .i64 at_] 3) ∧ (Blk W bg81 [.pointer (some ⟨g1, 0, none⟩)] 22) ∧ (Blk W bs82 [.int .i64 1] 3) ∧ (Blk W bn83 [.int .i64 at_] 3) ∧ (ArgT W 4 Ac4.cells A cap xs) ∧ (ArgT W 4 Ac4.cells B capb ms) ∧ (SlT W 3 Ci.cells P54 capP54 ((bldC xs (min xs.length 100)).filter (fun c : Ci => c.a == at_))) ∧ (SlT W 3 Ci.cells P72 capP72 ((bldC xs (min xs.length 100)).filter (fun c : Ci => c.b == at_))) ∧ (SlT W 3 Ci.cells A92 cap92 (bldC xs (min xs.length 100))) ∧ (Keep none_ w W) ∧ (Blk W b85 [.int .i64 ((k : Nat) : Int)] 3) ∧ (Grd F1k W g1 (mC (bldC xs (min xs.length 100)) ms k)) ∧ (Rgd F2k W x1 (mC (bldC xs (min xs.length 100)) ms k)) ∧ (∀ q, F1k q → w5.heap.size ≤ q ∧ q ≠ b1 ∧ q ≠ b3 ∧ q ≠ b5 ∧ q ≠ b38 ∧ q ≠ b40 ∧ q ≠ b56 ∧ q ≠ bg65 ∧ q ≠ bs66 ∧ q ≠ bn67 ∧ q ≠ bg81 ∧ q ≠ bs82 ∧ q ≠ bn83 ∧ q ≠ b85 ∧ (q < w87.heap.size ∨ M1 ≤ q)) ∧ (∀ q, F2k q → w5.heap.size ≤ q ∧ q ≠ b1 ∧ q ≠ b3 ∧ q ≠ b5 ∧ q ≠ b38 ∧ q ≠ b40 ∧ q ≠ b56 ∧ q ≠ bg65 ∧ q ≠ bs66 ∧ q ≠ bn67 ∧ q ≠ bg81 ∧ q ≠ bs82 ∧ q ≠ bn83 ∧ q ≠ b85 ∧ (q < w87.heap.size ∨ M1 ≤ q)) ∧ (∀ q, F1k q → ¬ F2k q)) (fun M1 c k W => False) (fun M1 k W W' h hk => by obtain ⟨F1k, F2k, jb1, jb3, jb5, jb38, jb40, jb56, jbg65, jbs66, jbn67, jbg81, jbs82, jbn83, jA, jB, jP54, jP72, jA92, jhK0, jb85, jg1, jx1, ow1k, ow2k, hd12k⟩ := h; exact ⟨F1k, F2k, jb1.quiet hk, jb3.quiet hk, jb5.quiet hk, jb38.quiet hk, jb40.quiet hk, jb56.quiet hk, jbg65.quiet hk, jbs66.quiet hk, jbn67.quiet hk, jbg81.quiet hk, jbs82.quiet hk, jbn83.quiet hk, jA.quiet hk, jB.quiet hk, jP54.quiet hk, jP72.quiet hk, jA92.quiet hk, jhK0.quiet hk (by omega), jb85.quiet hk, Grd.quiet jg1 hk, Rgd.quiet jx1 hk, ow1k, ow2k, hd12k⟩) (fun _ _ _ _ _ h _ => h.elim) (fun M1 hM1 => ⟨F1, F2, hb1, hb3, hb5, hb38_45, hb40_50, hb56_77, hbg65, hbs66, hbn67, hbg81, hbs82, hbn83, hA, hB, hAP54, hAP72, hA92, hK0, hb85_90, ho1, ho2, (fun q hq => by have h1 := own34 q hq; have h2 := lt35 q hq; omega), (fun q hq => by have h1 := own36 q hq; have h2 := lt37 q hq; omega), hd12⟩) (fun M1 k W h => by obtain ⟨F1k, F2k, jb1, jb3, jb5, jb38, jb40, jb56, jbg65, jbs66, jbn67, jbg81, jbs82, jbn83, jA, jB, jP54, jP72, jA92, jhK0, jb85, jg1, jx1, ow1k, ow2k, hd12k⟩ := h; exact ⟨jbs82, jbn83, jA92⟩) ?_ ?_ (fun _ _ _ _ _ _ _ _ h _ => h.elim)
            · skip
              intro lp D M1 k W hD hl hM hMW hkm ⟨F1k, F2k, jb1, jb3, jb5, jb38, jb40, jb56, jbg65, jbs66, jbn67, jbg81, jbs82, jbn83, jA, jB, jP54, jP72, jA92, jhK0, jb85, jg1, jx1, ow1k, ow2k, hd12k⟩ ⟨rr, hrr⟩ hDD
              have hzjhK0 := Keep.size jhK0
              have hb1lt := jb1.lt
              have hb3lt := jb3.lt
              have hb5lt := jb5.lt
              have hb38lt := jb38.lt
              have hb40lt := jb40.lt
              have hb56lt := jb56.lt
              have hbg65lt := jbg65.lt
              have hbs66lt := jbs66.lt
              have hbn67lt := jbn67.lt
              have hbg81lt := jbg81.lt
              have hbs82lt := jbs82.lt
              have hbn83lt := jbn83.lt
              have hb85lt := jb85.lt
              have ltjP54 := SlT.lt jP54
              have ltjP72 := SlT.lt jP72
              have ltjA92 := SlT.lt jA92
              obtain ⟨c, hc⟩ : ∃ c, ((bldC xs (min xs.length 100)).filter (fun c : Ci => c.b == at_))[k]? = some c := ⟨_, List.getElem?_eq_getElem (by have h9 := hkm; rw [colL_map, List.length_map] at h9; exact h9)⟩
              have hcl := (List.getElem?_eq_some_iff.1 hc).1
              have hflk : ((bldC xs (min xs.length 100)).filter (fun c : Ci => c.b == at_)).length ≤ (bldC xs (min xs.length 100)).length := List.length_filter_le _ _
              have hck : (colL at_ (bldC xs (min xs.length 100)))[k]? = some (c.a, c.v) := by rw [colL_map, List.getElem?_map, hc]; rfl
              rw [enc2_at hck]
              refine V_pick [(5, .pointer (some ⟨b1, 0, none⟩)), (6, .pointer (some ⟨b3, 0, none⟩)), (8, .pointer (some ⟨b5, 0, none⟩)), (9, .pointer (some ⟨b38, 0, none⟩)), (10, .pointer (some ⟨b40, 0, none⟩)), (11, .pointer (some ⟨b56, 0, none⟩)), (13, .pointer (some ⟨b85, 0, none⟩)), (58, .int .i64 c.a), (59, .int .i64 c.v)] rfl ?_
              have hfen : Keep (fen w87.heap.size M1) W W := Keep.refl _ _
              have hzhfen := Keep.size hfen
              have lt93 := Grd.lt jg1
              have lt94 := Rgd.lt jx1
              have hg1lt := lt93 _ (Grd.at_ jg1)
              have hx1lt := lt94 _ (Rgd.at_ jx1)
              refine V_seq ?_
              refine V_region ?_
              refine OI_static 1 [(5, .pointer (some ⟨b1, 0, none⟩)), (6, .pointer (some ⟨b3, 0, none⟩)), (8, .pointer (some ⟨b5, 0, none⟩)), (9, .pointer (some ⟨b38, 0, none⟩)), (10, .pointer (some ⟨b40, 0, none⟩)), (11, .pointer (some ⟨b56, 0, none⟩)), (13, .pointer (some ⟨b85, 0, none⟩)), (14, .int .i64 c.a), (59, .int .i64 c.v)] (by kernel_rfl) ?_
              refine OI_end rfl ?_
              refine X_then ?_
              refine V_region ?_
              refine OI_static 1 [(5, .pointer (some ⟨b1, 0, none⟩)), (6, .pointer (some ⟨b3, 0, none⟩)), (8, .pointer (some ⟨b5, 0, none⟩)), (9, .pointer (some ⟨b38, 0, none⟩)), (10, .pointer (some ⟨b40, 0, none⟩)), (11, .pointer (some ⟨b56, 0, none⟩)), (13, .pointer (some ⟨b85, 0, none⟩)), (14, .int .i64 c.a), (15, .int .i64 c.v)] (by kernel_rfl) ?_
              refine OI_end rfl ?_
              refine X_begin2 hfen ?_
              intro W2 hk2 ⟨r2, hr2⟩ hD2
              have hsz95 := Keep.size hk2
              replace jb1 := Blk.quiet jb1 hk2
              have hb1lt := jb1.lt
              replace jb3 := Blk.quiet jb3 hk2
              have hb3lt := jb3.lt
              replace jb5 := Blk.quiet jb5 hk2
              have hb5lt := jb5.lt
              replace jb38 := Blk.quiet jb38 hk2
              have hb38lt := jb38.lt
              replace jb40 := Blk.quiet jb40 hk2
              have hb40lt := jb40.lt
              replace jb56 := Blk.quiet jb56 hk2
              have hb56lt := jb56.lt
              replace jbg65 := Blk.quiet jbg65 hk2
              have hbg65lt := jbg65.lt
              replace jbs66 := Blk.quiet jbs66 hk2
              have hbs66lt := jbs66.lt
              replace jbn67 := Blk.quiet jbn67 hk2
              have hbn67lt := jbn67.lt
              replace jbg81 := Blk.quiet jbg81 hk2
              have hbg81lt := jbg81.lt
              replace jbs82 := Blk.quiet jbs82 hk2
              have hbs82lt := jbs82.lt
              replace jbn83 := Blk.quiet jbn83 hk2
              have hbn83lt := jbn83.lt
              replace jb85 := Blk.quiet jb85 hk2
              have hb85lt := jb85.lt
              replace jA := ArgT.quiet jA hk2
              replace jB := ArgT.quiet jB hk2
              replace jP54 := SlT.quiet jP54 hk2
              replace jP72 := SlT.quiet jP72 hk2
              replace jA92 := SlT.quiet jA92 hk2
              replace jhK0 := Keep.quiet jhK0 hk2 (by omega); have hzjhK0 := Keep.size jhK0
              replace jg1 := Grd.quiet jg1 hk2
              replace jx1 := Rgd.quiet jx1 hk2
              have hzhk2 := Keep.size hk2
              have hfenb : Keep (fen w87.heap.size M1) W2 W2 := Keep.refl _ _
              have hzhfenb := Keep.size hfenb
              refine V_block ?_
              refine V_seq ?_
              refine V_seq ?_
              refine V_region ?_
              refine OI_cell 3 (.tmp 13) 0 (.int .i64 ((k : Nat) : Int)) (some 60) (by kernel_rfl) (by kernel_rfl) jb85 (m := 1) (by kernel_rfl) rfl ?_
              refine OI_cell 47 (.tmp 11) 0 (.slice P72 (((bldC xs (min xs.length 100)).filter (fun c : Ci => c.b == at_)).length) capP72) (some 61) (by kernel_rfl) (by kernel_rfl) jb56 (m := 1) (by kernel_rfl) rfl ?_
              refine OI_static 5 [(5, .pointer (some ⟨b1, 0, none⟩)), (6, .pointer (some ⟨b3, 0, none⟩)), (8, .pointer (some ⟨b5, 0, none⟩)), (9, .pointer (some ⟨b38, 0, none⟩)), (10, .pointer (some ⟨b40, 0, none⟩)), (11, .pointer (some ⟨b56, 0, none⟩)), (13, .pointer (some ⟨b85, 0, none⟩)), (14, .int .i64 c.a), (15, .int .i64 c.v), (64, .bool (decide (((k : Nat) : Int) ≥ ((((bldC xs (min xs.length 100)).filter (fun c : Ci => c.b == at_)).length : Nat) : Int))))] (by kernel_rfl) ?_
              refine OI_eq [(5, .pointer (some ⟨b1, 0, none⟩)), (6, .pointer (some ⟨b3, 0, none⟩)), (8, .pointer (some ⟨b5, 0, none⟩)), (9, .pointer (some ⟨b38, 0, none⟩)), (10, .pointer (some ⟨b40, 0, none⟩)), (11, .pointer (some ⟨b56, 0, none⟩)), (13, .pointer (some ⟨b85, 0, none⟩)), (14, .int .i64 c.a), (15, .int .i64 c.v), (64, .bool false)] (by rw [decide_eq_false (by omega : ¬ ((k : Nat) : Int) ≥ ((((bldC xs (min xs.length 100)).filter (fun c : Ci => c.b == at_)).length : Nat) : Int))]) ?_
              refine OI_static 6 [(5, .pointer (some ⟨b1, 0, none⟩)), (6, .pointer (some ⟨b3, 0, none⟩)), (8, .pointer (some ⟨b5, 0, none⟩)), (9, .pointer (some ⟨b38, 0, none⟩)), (10, .pointer (some ⟨b40, 0, none⟩)), (11, .pointer (some ⟨b56, 0, none⟩)), (13, .pointer (some ⟨b85, 0, none⟩)), (14, .int .i64 c.a), (64, .bool false), (65, .int .i64 c.v)] (by kernel_rfl) ?_
              refine OI_cell 47 (.tmp 11) 0 (.slice P72 (((bldC xs (min xs.length 100)).filter (fun c : Ci => c.b == at_)).length) capP72) (some 66) (by kernel_rfl) (by kernel_rfl) jb56 (m := 1) (by kernel_rfl) rfl ?_
              refine OI_cell 3 (.tmp 13) 0 (.int .i64 ((k : Nat) : Int)) (some 67) (by kernel_rfl) (by kernel_rfl) jb85 (m := 1) (by kernel_rfl) rfl ?_
              obtain ⟨b97, o97, L97, T97, rfl, hat97⟩ := SlT.open_ jP72 (by first | omega | (simp only [List.length_map]; omega) | (simp; done) | (simp; omega))
              have hb97lt := hat97.blk.lt
              have hob98 := owy92P72 b97 ⟨_, rfl, rfl⟩
              have hob99 := ltjP72 b97 ⟨_, rfl, rfl⟩
              refine OI_pure (some 68) (.indexAddr 47 (.tmp 66) (.tmp 67)) (by kernel_rfl) (pure_idxN (b := b97) (o := o97) (len := ((bldC xs (min xs.length 100)).filter (fun c : Ci => c.b == at_)).length) (cap := capP72) (kd := .i64) (j := k) (E := 59) (sz := 3) (by_ := 24) (by kernel_rfl) (by kernel_rfl) (by kernel_rfl) (by omega)) ?_
              refine OI_static 10 [(5, .pointer (some ⟨b1, 0, none⟩)), (6, .pointer (some ⟨b3, 0, none⟩)), (8, .pointer (some ⟨b5, 0, none⟩)), (9, .pointer (some ⟨b38, 0, none⟩)), (10, .pointer (some ⟨b40, 0, none⟩)), (11, .pointer (some ⟨b56, 0, none⟩)), (13, .pointer (some ⟨b85, 0, none⟩)), (14, .int .i64 c.a), (64, .bool false), (65, .int .i64 c.v), (69, .pointer (some ⟨b97, o97 + k * 3 + 2, none⟩))] (by kernel_rfl) ?_
              refine OI_cell 3 (.tmp 69) (o97 + k * 3 + 2) (.int .i64 c.v) (some 70) (by kernel_rfl) (by kernel_rfl) hat97.blk (m := 1) (by kernel_rfl) (At.cell hat97 (es_at hc) rfl) ?_
              refine OI_static 14 [(5, .pointer (some ⟨b1, 0, none⟩)), (6, .pointer (some ⟨b3, 0, none⟩)), (8, .pointer (some ⟨b5, 0, none⟩)), (9, .pointer (some ⟨b38, 0, none⟩)), (10, .pointer (some ⟨b40, 0, none⟩)), (11, .pointer (some ⟨b56, 0, none⟩)), (13, .pointer (some ⟨b85, 0, none⟩)), (14, .int .i64 c.a), (73, .bool (!(decide (c.v = c.v))))] (by kernel_rfl) ?_
              refine OI_eq [(5, .pointer (some ⟨b1, 0, none⟩)), (6, .pointer (some ⟨b3, 0, none⟩)), (8, .pointer (some ⟨b5, 0, none⟩)), (9, .pointer (some ⟨b38, 0, none⟩)), (10, .pointer (some ⟨b40, 0, none⟩)), (11, .pointer (some ⟨b56, 0, none⟩)), (13, .pointer (some ⟨b85, 0, none⟩)), (14, .int .i64 c.a), (73, .bool false)] (by rw [decide_eq_true (rfl : c.v = c.v)]; rfl) ?_
              refine OI_cell 3 (.tmp 6) 0 (.int .i64 way) (some 74) (by kernel_rfl) (by kernel_rfl) jb3 (m := 1) (by kernel_rfl) rfl ?_
              refine OI_static 17 [(5, .pointer (some ⟨b1, 0, none⟩)), (6, .pointer (some ⟨b3, 0, none⟩)), (8, .pointer (some ⟨b5, 0, none⟩)), (9, .pointer (some ⟨b38, 0, none⟩)), (10, .pointer (some ⟨b40, 0, none⟩)), (11, .pointer (some ⟨b56, 0, none⟩)), (13, .pointer (some ⟨b85, 0, none⟩)), (14, .int .i64 c.a), (73, .bool false), (76, .bool (decide (way = 0)))] (by kernel_rfl) ?_
              refine OI_eq [(5, .pointer (some ⟨b1, 0, none⟩)), (6, .pointer (some ⟨b3, 0, none⟩)), (8, .pointer (some ⟨b5, 0, none⟩)), (9, .pointer (some ⟨b38, 0, none⟩)), (10, .pointer (some ⟨b40, 0, none⟩)), (11, .pointer (some ⟨b56, 0, none⟩)), (13, .pointer (some ⟨b85, 0, none⟩)), (14, .int .i64 c.a), (73, .bool false), (76, .bool false)] (by rw [decide_eq_false (by omega : ¬ way = 0)]) ?_
              refine OI_static 27 [(5, .pointer (some ⟨b1, 0, none⟩)), (6, .pointer (some ⟨b3, 0, none⟩)), (8, .pointer (some ⟨b5, 0, none⟩)), (9, .pointer (some ⟨b38, 0, none⟩)), (10, .pointer (some ⟨b40, 0, none⟩)), (11, .pointer (some ⟨b56, 0, none⟩)), (13, .pointer (some ⟨b85, 0, none⟩)), (14, .int .i64 c.a), (86, .bool false)] (by kernel_rfl) ?_
              refine OI_cell 3 (.tmp 6) 0 (.int .i64 way) (some 87) (by kernel_rfl) (by kernel_rfl) jb3 (m := 1) (by kernel_rfl) rfl ?_
              refine OI_static 30 [(5, .pointer (some ⟨b1, 0, none⟩)), (8, .pointer (some ⟨b5, 0, none⟩)), (9, .pointer (some ⟨b38, 0, none⟩)), (10, .pointer (some ⟨b40, 0, none⟩)), (11, .pointer (some ⟨b56, 0, none⟩)), (13, .pointer (some ⟨b85, 0, none⟩)), (14, .int .i64 c.a), (86, .bool false), (89, .bool (decide (way = 1)))] (by kernel_rfl) ?_
              refine OI_eq [(5, .pointer (some ⟨b1, 0, none⟩)), (8, .pointer (some ⟨b5, 0, none⟩)), (9, .pointer (some ⟨b38, 0, none⟩)), (10, .pointer (some ⟨b40, 0, none⟩)), (11, .pointer (some ⟨b56, 0, none⟩)), (13, .pointer (some ⟨b85, 0, none⟩)), (14, .int .i64 c.a), (86, .bool false), (89, .bool true)] (by rw [decide_eq_true (by omega : way = 1)]) ?_
              refine OI_static 31 [(5, .pointer (some ⟨b1, 0, none⟩)), (8, .pointer (some ⟨b5, 0, none⟩)), (9, .pointer (some ⟨b38, 0, none⟩)), (10, .pointer (some ⟨b40, 0, none⟩)), (11, .pointer (some ⟨b56, 0, none⟩)), (13, .pointer (some ⟨b85, 0, none⟩)), (86, .bool false), (89, .bool true), (90, .int .i64 c.a)] (by kernel_rfl) ?_
              refine OI_cell 47 (.tmp 11) 0 (.slice (some ⟨b97, o97, none⟩) (((bldC xs (min xs.length 100)).filter (fun c : Ci => c.b == at_)).length) capP72) (some 91) (by kernel_rfl) (by kernel_rfl) jb56 (m := 1) (by kernel_rfl) rfl ?_
              refine OI_cell 3 (.tmp 13) 0 (.int .i64 ((k : Nat) : Int)) (some 92) (by kernel_rfl) (by kernel_rfl) jb85 (m := 1) (by kernel_rfl) rfl ?_
              refine OI_pure (some 93) (.indexAddr 47 (.tmp 91) (.tmp 92)) (by kernel_rfl) (pure_idxN (b := b97) (o := o97) (len := ((bldC xs (min xs.length 100)).filter (fun c : Ci => c.b == at_)).length) (cap := capP72) (kd := .i64) (j := k) (E := 59) (sz := 3) (by_ := 24) (by kernel_rfl) (by kernel_rfl) (by kernel_rfl) (by omega)) ?_
              refine OI_static 35 [(5, .pointer (some ⟨b1, 0, none⟩)), (8, .pointer (some ⟨b5, 0, none⟩)), (9, .pointer (some ⟨b38, 0, none⟩)), (10, .pointer (some ⟨b40, 0, none⟩)), (13, .pointer (some ⟨b85, 0, none⟩)), (86, .bool false), (89, .bool true), (90, .int .i64 c.a), (94, .pointer (some ⟨b97, o97 + k * 3, none⟩))] (by kernel_rfl) ?_
              refine OI_cell 3 (.tmp 94) (o97 + k * 3) (.int .i64 c.a) (some 95) (by kernel_rfl) (by kernel_rfl) hat97.blk (m := 1) (by kernel_rfl) (At.cell0 hat97 (es_at hc) rfl) ?_
              refine OI_static 39 [(5, .pointer (some ⟨b1, 0, none⟩)), (8, .pointer (some ⟨b5, 0, none⟩)), (9, .pointer (some ⟨b38, 0, none⟩)), (10, .pointer (some ⟨b40, 0, none⟩)), (13, .pointer (some ⟨b85, 0, none⟩)), (98, .bool (!(decide (c.a = c.a))))] (by kernel_rfl) ?_
              refine OI_end rfl ?_
              refine X_then ?_
              refine V_eq [(5, .pointer (some ⟨b1, 0, none⟩)), (8, .pointer (some ⟨b5, 0, none⟩)), (9, .pointer (some ⟨b38, 0, none⟩)), (10, .pointer (some ⟨b40, 0, none⟩)), (13, .pointer (some ⟨b85, 0, none⟩)), (98, .bool false)] (by rw [decide_eq_true (rfl : c.a = c.a)]; rfl) ?_
              refine V_false rfl ?_
              refine V_skip ?_
              refine X_then ?_
              refine V_seq ?_
              refine V_seq ?_
              refine V_draws (acts [11]) none_ [[0, 1, 2, 3, 4, 5, 6, 7, 8, 9, 10, 11, 12, 13]] (by kernel_rfl) (by repeat first | exact (by first | exact sure_postM | exact sure_rQ2 | exact sure_no | exact sure_body (by rintro _ _ ⟨h, _⟩; exact ⟨_, h⟩)) | refine sure_then ?_ | refine sure_block ?_ | refine sure_join ?_) (by kernel_rfl) ?_
              intro w105 hk104 he106 L hL107
              have hsz108 := Keep.size hk104
              replace jb1 := jb1.keep hk104 (fun f => f)
              have hb1lt := jb1.lt
              replace jb3 := jb3.keep hk104 (fun f => f)
              have hb3lt := jb3.lt
              replace jb5 := jb5.keep hk104 (fun f => f)
              have hb5lt := jb5.lt
              replace jb38 := jb38.keep hk104 (fun f => f)
              have hb38lt := jb38.lt
              replace jb40 := jb40.keep hk104 (fun f => f)
              have hb40lt := jb40.lt
              replace jb56 := jb56.keep hk104 (fun f => f)
              have hb56lt := jb56.lt
              replace jbg65 := jbg65.keep hk104 (fun f => f)
              have hbg65lt := jbg65.lt
              replace jbs66 := jbs66.keep hk104 (fun f => f)
              have hbs66lt := jbs66.lt
              replace jbn67 := jbn67.keep hk104 (fun f => f)
              have hbn67lt := jbn67.lt
              replace jbg81 := jbg81.keep hk104 (fun f => f)
              have hbg81lt := jbg81.lt
              replace jbs82 := jbs82.keep hk104 (fun f => f)
              have hbs82lt := jbs82.lt
              replace jbn83 := jbn83.keep hk104 (fun f => f)
              have hbn83lt := jbn83.lt
              replace jb85 := jb85.keep hk104 (fun f => f)
              have hb85lt := jb85.lt
              replace hat97 := hat97.keep hk104 (fun f => f)
              have hb97lt := hat97.blk.lt
              replace jA := ArgT.keep0 jA hk104
              replace jB := ArgT.keep0 jB hk104
              replace jP54 := SlT.keep0 jP54 hk104
              replace jP72 := SlT.keep0 jP72 hk104
              replace jA92 := SlT.keep0 jA92 hk104
              replace jhK0 := Keep.tr jhK0 (Keep.ofNone hk104); have hzjhK0 := Keep.size jhK0
              replace jg1 := Grd.keep jg1 hk104 (fun _ _ f => f)
              replace jx1 := Rgd.keep jx1 hk104 (fun _ _ f => f)
              replace hfenb := Keep.tr hfenb (Keep.ofNone hk104); have hzhfenb := Keep.size hfenb
              have qjb1 := jb1
              have qjb3 := jb3
              have qjb5 := jb5
              have qjb38 := jb38
              have qjb40 := jb40
              have qjb56 := jb56
              have qjbg65 := jbg65
              have qjbs66 := jbs66
              have qjbn67 := jbn67
              have qjbg81 := jbg81
              have qjbs82 := jbs82
              have qjbn83 := jbn83
              have qjb85 := jb85
              have qhat97 := hat97
              have K109 : Keep none_ w105 w105 := Keep.refl _ _
              obtain rfl := List.mem_singleton.1 hL107
              refine GI_cell 3 (.tmp 13) 0 (.int .i64 ((k : Nat) : Int)) (some 99) (by kernel_rfl) (by kernel_rfl) (by kernel_rfl) qjb85 (fun f => f) (m := 1) (by kernel_rfl) rfl ?_
              refine GI_cell 40 (.tmp 5) 0 (.slice B ms.length capb) (some 100) (by kernel_rfl) (by kernel_rfl) (by kernel_rfl) qjb1 (fun f => f) (m := 1) (by kernel_rfl) rfl ?_
              refine GI_static [5, 6, 7, 8, 9, 10, 11, 12, 13] [(5, .pointer (some ⟨b1, 0, none⟩)), (8, .pointer (some ⟨b5, 0, none⟩)), (9, .pointer (some ⟨b38, 0, none⟩)), (10, .pointer (some ⟨b40, 0, none⟩)), (13, .pointer (some ⟨b85, 0, none⟩)), (103, .bool (decide (((k : Nat) : Int) < ((ms.length : Nat) : Int))))] (by kernel_rfl) ?_
              by_cases hg110 : ((k : Nat) : Int) < ((ms.length : Nat) : Int)
              · skip
                refine GI_eq [(5, .pointer (some ⟨b1, 0, none⟩)), (8, .pointer (some ⟨b5, 0, none⟩)), (9, .pointer (some ⟨b38, 0, none⟩)), (10, .pointer (some ⟨b40, 0, none⟩)), (13, .pointer (some ⟨b85, 0, none⟩)), (103, .bool true)] (by first | simp [hg110] | rfl) ?_
                refine GI_cell 22 (.tmp 9) 0 (.pointer (some ⟨g1, 0, none⟩)) (some 104) (by kernel_rfl) (by kernel_rfl) (by kernel_rfl) qjb38 (fun f => f) (m := 1) (by kernel_rfl) rfl ?_
                refine GI_cell 46 (.tmp 10) 0 (.pointer (some ⟨x1, 0, none⟩)) (some 105) (by kernel_rfl) (by kernel_rfl) (by kernel_rfl) qjb40 (fun f => f) (m := 1) (by kernel_rfl) rfl ?_
                refine GI_cell 40 (.tmp 5) 0 (.slice B ms.length capb) (some 106) (by kernel_rfl) (by kernel_rfl) (by kernel_rfl) qjb1 (fun f => f) (m := 1) (by kernel_rfl) rfl ?_
                refine GI_cell 3 (.tmp 13) 0 (.int .i64 ((k : Nat) : Int)) (some 107) (by kernel_rfl) (by kernel_rfl) (by kernel_rfl) qjb85 (fun f => f) (m := 1) (by kernel_rfl) rfl ?_
                obtain ⟨b111, o111, L111, rfl, hat111⟩ := ArgT.open_ jB (by first | omega | (simp only [List.length_map]; omega) | (simp; done) | (simp; omega))
                have hb111lt0 := ArgT.lt hB0 (by first | omega | (simp only [List.length_map]; omega) | (simp; done) | (simp; omega))
                have hb111lt := hat111.blk.lt
                refine GI_pure (some 108) (.indexAddr 40 (.tmp 106) (.tmp 107)) (by kernel_rfl) (by kernel_rfl) (pure_idxN (b := b111) (o := o111) (len := ms.length) (cap := capb) (kd := .i64) (j := k) (E := 42) (sz := 4) (by_ := 32) (by kernel_rfl) (by kernel_rfl) (by kernel_rfl) (by omega)) ?_
                obtain ⟨x112, hx113⟩ : ∃ x, ms[k]? = some x := ⟨_, List.getElem?_eq_getElem (by first | omega | (simp only [List.length_map]; omega))⟩
                refine GI_aggR 42 (.tmp 108) (o111 + k * 4) (Ac4.cells x112) (some 109) (by kernel_rfl) (by kernel_rfl) (by kernel_rfl) hat111.blk (fun f => f) (m := 4) (by kernel_rfl) (AtR.elem' hat111 _ _ (es_at hx113)) (AtR.len hat111 (es_at hx113)) ?_
                refine GI_call0 { callee := (Callee.value (Operand.func 22)), args := #[(Operand.tmp 104), (Operand.tmp 105), (Operand.tmp 109)], argTypes := #[22, 46, 42] } 22 #[.pointer (some ⟨g1, 0, none⟩), .pointer (some ⟨x1, 0, none⟩), .agg (Ac4.cells x112).toArray] (some 110) (by kernel_rfl) (by kernel_rfl) (by kernel_rfl) (by kernel_rfl) (by kernel_rfl) (act_gf F1k F2k g1 x1 (mC (bldC xs (min xs.length 100)) ms k) x112 _ jg1 jx1 hd12k (by have := mC_len (bldC xs (min xs.length 100)) ms k; omega)) ?_
                rintro _ w114 ⟨rfl, ⟨F116, F119, ho117, ho120, hfr118, hfr121, hdis122⟩, hk115⟩
                refine ⟨_, rfl, ?_⟩
                have hsz123 := Keep.size hk115
                replace jb1 := jb1.keep hk115 (by show ¬ (b1 = g1 ∨ b1 = x1); omega)
                have hb1lt := jb1.lt
                replace jb3 := jb3.keep hk115 (by show ¬ (b3 = g1 ∨ b3 = x1); omega)
                have hb3lt := jb3.lt
                replace jb5 := jb5.keep hk115 (by show ¬ (b5 = g1 ∨ b5 = x1); omega)
                have hb5lt := jb5.lt
                replace jb38 := jb38.keep hk115 (by show ¬ (b38 = g1 ∨ b38 = x1); omega)
                have hb38lt := jb38.lt
                replace jb40 := jb40.keep hk115 (by show ¬ (b40 = g1 ∨ b40 = x1); omega)
                have hb40lt := jb40.lt
                replace jb56 := jb56.keep hk115 (by show ¬ (b56 = g1 ∨ b56 = x1); omega)
                have hb56lt := jb56.lt
                replace jbg65 := jbg65.keep hk115 (by show ¬ (bg65 = g1 ∨ bg65 = x1); omega)
                have hbg65lt := jbg65.lt
                replace jbs66 := jbs66.keep hk115 (by show ¬ (bs66 = g1 ∨ bs66 = x1); omega)
                have hbs66lt := jbs66.lt
                replace jbn67 := jbn67.keep hk115 (by show ¬ (bn67 = g1 ∨ bn67 = x1); omega)
                have hbn67lt := jbn67.lt
                replace jbg81 := jbg81.keep hk115 (by show ¬ (bg81 = g1 ∨ bg81 = x1); omega)
                have hbg81lt := jbg81.lt
                replace jbs82 := jbs82.keep hk115 (by show ¬ (bs82 = g1 ∨ bs82 = x1); omega)
                have hbs82lt := jbs82.lt
                replace jbn83 := jbn83.keep hk115 (by show ¬ (bn83 = g1 ∨ bn83 = x1); omega)
                have hbn83lt := jbn83.lt
                replace jb85 := jb85.keep hk115 (by show ¬ (b85 = g1 ∨ b85 = x1); omega)
                have hb85lt := jb85.lt
                replace hat97 := hat97.keep hk115 (by show ¬ (b97 = g1 ∨ b97 = x1); omega)
                have hb97lt := hat97.blk.lt
                replace hat111 := hat111.keep hk115 (by show ¬ (b111 = g1 ∨ b111 = x1); omega)
                have hb111lt := hat111.blk.lt
                replace jA := ArgT.keep jA hk115 hA0 (fun k hk hs => by have hs2 : k = g1 ∨ k = x1 := hs; omega)
                replace jB := ArgT.keep jB hk115 hB0 (fun k hk hs => by have hs2 : k = g1 ∨ k = x1 := hs; omega)
                replace jP54 := SlT.keep jP54 hk115 (fun q hq hs => by have hs2 : q = g1 ∨ q = x1 := hs; have g0 := owy92P54 q hq; have g1 := ltjP54 q hq; omega)
                replace jP72 := SlT.keep jP72 hk115 (fun q hq hs => by have hs2 : q = g1 ∨ q = x1 := hs; have g0 := owy92P72 q hq; have g1 := ltjP72 q hq; omega)
                replace jA92 := SlT.keep jA92 hk115 (fun q hq hs => by have hs2 : q = g1 ∨ q = x1 := hs; have g0 := owb92 q hq; have g1 := ltjA92 q hq; omega)
                replace jhK0 := Keep.fresh jhK0 hk115 (by intro i hi hs; first | exact hs | (exfalso; have hs2 : i = g1 ∨ i = x1 := hs; omega)); have hzjhK0 := Keep.size jhK0
                replace hfenb := Keep.fresh hfenb hk115 (by intro i hi hs; have hs2 : i = g1 ∨ i = x1 := hs; show _ ∨ _; omega); have hzhfenb := Keep.size hfenb
                have own125 : ∀ q, F116 q → w5.heap.size ≤ q ∧ (q < w87.heap.size ∨ M1 ≤ q) ∧ q ≠ b1 ∧ q ≠ b3 ∧ q ≠ b5 ∧ q ≠ b38 ∧ q ≠ b40 ∧ q ≠ b56 ∧ q ≠ bg65 ∧ q ≠ bs66 ∧ q ≠ bn67 ∧ q ≠ bg81 ∧ q ≠ bs82 ∧ q ≠ bn83 ∧ q ≠ b85 := fun q hq => by rcases hfr118 q hq with h | h; (have h1 := ow1k q h; have h2 := lt93 q h; omega); omega
                have lt124 := Grd.lt ho117
                have own127 : ∀ q, F119 q → w5.heap.size ≤ q ∧ (q < w87.heap.size ∨ M1 ≤ q) ∧ q ≠ b1 ∧ q ≠ b3 ∧ q ≠ b5 ∧ q ≠ b38 ∧ q ≠ b40 ∧ q ≠ b56 ∧ q ≠ bg65 ∧ q ≠ bs66 ∧ q ≠ bn67 ∧ q ≠ bg81 ∧ q ≠ bs82 ∧ q ≠ bn83 ∧ q ≠ b85 := fun q hq => by rcases hfr121 q hq with h | h; (have h1 := ow2k q h; have h2 := lt94 q h; omega); omega
                have lt126 := Rgd.lt ho120
                rw [mC_act hx113] at ho117 ho120
                refine GI_static [] [(8, .pointer (some ⟨b5, 0, none⟩)), (13, .pointer (some ⟨b85, 0, none⟩)), (112, .bool false)] (by kernel_rfl) ?_
                refine GI_end ?_
                refine X_then ?_
                refine V_false rfl ?_
                refine V_skip ?_
                refine X_then ?_
                refine V_region ?_
                refine OI_cell 3 (.tmp 13) 0 (.int .i64 ((k : Nat) : Int)) (some 113) (by kernel_rfl) (by kernel_rfl) jb85 (m := 1) (by kernel_rfl) rfl ?_
                have hw128 : IntKind.i64.wrap (((k : Nat) : Int) + 1) = ((k + 1 : Nat) : Int) := (wrap64_id (by omega) (by omega)).trans (by omega)
                refine OI_static 2 [(13, .pointer (some ⟨b85, 0, none⟩)), (114, .int .i64 (IntKind.i64.wrap (((k : Nat) : Int) + 1)))] (by kernel_rfl) ?_
                refine OI_eq [(13, .pointer (some ⟨b85, 0, none⟩)), (114, .int .i64 ((k + 1 : Nat) : Int))] (by rw [hw128]) ?_
                refine OI_set (m := 1) (kd := false) 3 (.tmp 13) (.tmp 114) 0 (.int .i64 ((k + 1 : Nat) : Int)) [.int .i64 ((k + 1 : Nat) : Int)] none (by kernel_rfl) (by kernel_rfl) (by kernel_rfl) jb85 (by kernel_rfl) (by kernel_rfl) (by kernel_rfl) (Nat.le_of_ble_eq_true (by kernel_rfl)) (by simp [Value.oneCell']) ?_
                intro w129 hb85_132 hk130 hz131
                replace hb85_132 : Blk w129 b85 [.int .i64 ((k + 1 : Nat) : Int)] 3 := hb85_132
                have hsz133 := Keep.size hk130
                replace jb1 := jb1.keep hk130 (by show ¬ (_ = _); omega)
                have hb1lt := jb1.lt
                replace jb3 := jb3.keep hk130 (by show ¬ (_ = _); omega)
                have hb3lt := jb3.lt
                replace jb5 := jb5.keep hk130 (by show ¬ (_ = _); omega)
                have hb5lt := jb5.lt
                replace jb38 := jb38.keep hk130 (by show ¬ (_ = _); omega)
                have hb38lt := jb38.lt
                replace jb40 := jb40.keep hk130 (by show ¬ (_ = _); omega)
                have hb40lt := jb40.lt
                replace jb56 := jb56.keep hk130 (by show ¬ (_ = _); omega)
                have hb56lt := jb56.lt
                replace jbg65 := jbg65.keep hk130 (by show ¬ (_ = _); omega)
                have hbg65lt := jbg65.lt
                replace jbs66 := jbs66.keep hk130 (by show ¬ (_ = _); omega)
                have hbs66lt := jbs66.lt
                replace jbn67 := jbn67.keep hk130 (by show ¬ (_ = _); omega)
                have hbn67lt := jbn67.lt
                replace jbg81 := jbg81.keep hk130 (by show ¬ (_ = _); omega)
                have hbg81lt := jbg81.lt
                replace jbs82 := jbs82.keep hk130 (by show ¬ (_ = _); omega)
                have hbs82lt := jbs82.lt
                replace jbn83 := jbn83.keep hk130 (by show ¬ (_ = _); omega)
                have hbn83lt := jbn83.lt
                replace hat97 := hat97.keep hk130 (by show ¬ (_ = _); omega)
                have hb97lt := hat97.blk.lt
                replace hat111 := hat111.keep hk130 (by show ¬ (_ = _); omega)
                have hb111lt := hat111.blk.lt
                replace jA := ArgT.keep jA hk130 hA0 (fun k hk hs => by have hs : k = b85 := hs; omega)
                replace jB := ArgT.keep jB hk130 hB0 (fun k hk hs => by have hs : k = b85 := hs; omega)
                replace jP54 := SlT.keep jP54 hk130 (fun q hq hs => by have hs : q = b85 := hs; have g0 := owy92P54 q hq; have g1 := ltjP54 q hq; omega)
                replace jP72 := SlT.keep jP72 hk130 (fun q hq hs => by have hs : q = b85 := hs; have g0 := owy92P72 q hq; have g1 := ltjP72 q hq; omega)
                replace jA92 := SlT.keep jA92 hk130 (fun q hq hs => by have hs : q = b85 := hs; have g0 := owb92 q hq; have g1 := ltjA92 q hq; omega)
                replace jhK0 := Keep.fresh jhK0 hk130 (by intro i hi hs; first | exact hs | exact Or.inl hs | exact Or.inr hs | (exfalso; have hs2 : i = b85 := hs; omega)); have hzjhK0 := Keep.size jhK0
                replace hfenb := Keep.fresh hfenb hk130 (by intro i hi hs; have hs2 : i = b85 := hs; show _ ∨ _; omega); have hzhfenb := Keep.size hfenb
                replace ho117 := Grd.keep ho117 hk130 (fun q hq hs => by have hs : q = b85 := hs; have g0 := own125 q hq; have g1 := lt124 q hq; omega)
                replace ho120 := Rgd.keep ho120 hk130 (fun q hq hs => by have hs : q = b85 := hs; have g0 := own127 q hq; have g1 := lt126 q hq; omega)
                refine OI_end rfl ?_
                refine X_block ?_
                exact fun a _ => ⟨hfenb, F116, F119, jb1, jb3, jb5, jb38, jb40, jb56, jbg65, jbs66, jbn67, jbg81, jbs82, jbn83, jA, jB, jP54, jP72, jA92, jhK0, hb85_132, (by exact ho117), (by exact ho120), (fun q hq => by have h1 := own125 q hq; have h2 := lt124 q hq; omega), (fun q hq => by have h1 := own127 q hq; have h2 := lt126 q hq; omega), hdis122⟩
              · skip
                refine GI_eq [(5, .pointer (some ⟨b1, 0, none⟩)), (8, .pointer (some ⟨b5, 0, none⟩)), (9, .pointer (some ⟨b38, 0, none⟩)), (10, .pointer (some ⟨b40, 0, none⟩)), (13, .pointer (some ⟨b85, 0, none⟩)), (103, .bool false)] (by first | simp [hg110] | rfl) ?_
                refine GI_static [] [(8, .pointer (some ⟨b5, 0, none⟩)), (13, .pointer (some ⟨b85, 0, none⟩)), (112, .bool false)] (by kernel_rfl) ?_
                refine GI_end ?_
                refine X_then ?_
                refine V_false rfl ?_
                refine V_skip ?_
                refine X_then ?_
                refine V_region ?_
                refine OI_cell 3 (.tmp 13) 0 (.int .i64 ((k : Nat) : Int)) (some 113) (by kernel_rfl) (by kernel_rfl) jb85 (m := 1) (by kernel_rfl) rfl ?_
                have hw134 : IntKind.i64.wrap (((k : Nat) : Int) + 1) = ((k + 1 : Nat) : Int) := (wrap64_id (by omega) (by omega)).trans (by omega)
                refine OI_static 2 [(13, .pointer (some ⟨b85, 0, none⟩)), (114, .int .i64 (IntKind.i64.wrap (((k : Nat) : Int) + 1)))] (by kernel_rfl) ?_
                refine OI_eq [(13, .pointer (some ⟨b85, 0, none⟩)), (114, .int .i64 ((k + 1 : Nat) : Int))] (by rw [hw134]) ?_
                refine OI_set (m := 1) (kd := false) 3 (.tmp 13) (.tmp 114) 0 (.int .i64 ((k + 1 : Nat) : Int)) [.int .i64 ((k + 1 : Nat) : Int)] none (by kernel_rfl) (by kernel_rfl) (by kernel_rfl) jb85 (by kernel_rfl) (by kernel_rfl) (by kernel_rfl) (Nat.le_of_ble_eq_true (by kernel_rfl)) (by simp [Value.oneCell']) ?_
                intro w135 hb85_138 hk136 hz137
                replace hb85_138 : Blk w135 b85 [.int .i64 ((k + 1 : Nat) : Int)] 3 := hb85_138
                have hsz139 := Keep.size hk136
                replace jb1 := jb1.keep hk136 (by show ¬ (_ = _); omega)
                have hb1lt := jb1.lt
                replace jb3 := jb3.keep hk136 (by show ¬ (_ = _); omega)
                have hb3lt := jb3.lt
                replace jb5 := jb5.keep hk136 (by show ¬ (_ = _); omega)
                have hb5lt := jb5.lt
                replace jb38 := jb38.keep hk136 (by show ¬ (_ = _); omega)
                have hb38lt := jb38.lt
                replace jb40 := jb40.keep hk136 (by show ¬ (_ = _); omega)
                have hb40lt := jb40.lt
                replace jb56 := jb56.keep hk136 (by show ¬ (_ = _); omega)
                have hb56lt := jb56.lt
                replace jbg65 := jbg65.keep hk136 (by show ¬ (_ = _); omega)
                have hbg65lt := jbg65.lt
                replace jbs66 := jbs66.keep hk136 (by show ¬ (_ = _); omega)
                have hbs66lt := jbs66.lt
                replace jbn67 := jbn67.keep hk136 (by show ¬ (_ = _); omega)
                have hbn67lt := jbn67.lt
                replace jbg81 := jbg81.keep hk136 (by show ¬ (_ = _); omega)
                have hbg81lt := jbg81.lt
                replace jbs82 := jbs82.keep hk136 (by show ¬ (_ = _); omega)
                have hbs82lt := jbs82.lt
                replace jbn83 := jbn83.keep hk136 (by show ¬ (_ = _); omega)
                have hbn83lt := jbn83.lt
                replace hat97 := hat97.keep hk136 (by show ¬ (_ = _); omega)
                have hb97lt := hat97.blk.lt
                replace jA := ArgT.keep jA hk136 hA0 (fun k hk hs => by have hs : k = b85 := hs; omega)
                replace jB := ArgT.keep jB hk136 hB0 (fun k hk hs => by have hs : k = b85 := hs; omega)
                replace jP54 := SlT.keep jP54 hk136 (fun q hq hs => by have hs : q = b85 := hs; have g0 := owy92P54 q hq; have g1 := ltjP54 q hq; omega)
                replace jP72 := SlT.keep jP72 hk136 (fun q hq hs => by have hs : q = b85 := hs; have g0 := owy92P72 q hq; have g1 := ltjP72 q hq; omega)
                replace jA92 := SlT.keep jA92 hk136 (fun q hq hs => by have hs : q = b85 := hs; have g0 := owb92 q hq; have g1 := ltjA92 q hq; omega)
                replace jhK0 := Keep.fresh jhK0 hk136 (by intro i hi hs; first | exact hs | exact Or.inl hs | exact Or.inr hs | (exfalso; have hs2 : i = b85 := hs; omega)); have hzjhK0 := Keep.size jhK0
                replace jg1 := Grd.keep jg1 hk136 (fun q hq hs => by have hs : q = b85 := hs; have g0 := ow1k q hq; have g1 := lt93 q hq; omega)
                replace jx1 := Rgd.keep jx1 hk136 (fun q hq hs => by have hs : q = b85 := hs; have g0 := ow2k q hq; have g1 := lt94 q hq; omega)
                replace hfenb := Keep.fresh hfenb hk136 (by intro i hi hs; have hs2 : i = b85 := hs; show _ ∨ _; omega); have hzhfenb := Keep.size hfenb
                refine OI_end rfl ?_
                refine X_block ?_
                exact fun a _ => ⟨hfenb, F1k, F2k, jb1, jb3, jb5, jb38, jb40, jb56, jbg65, jbs66, jbn67, jbg81, jbs82, jbn83, jA, jB, jP54, jP72, jA92, jhK0, hb85_138, (by rw [← mC_no (by omega)]; exact jg1), (by rw [← mC_no (by omega)]; exact jx1), (fun q hq => by have h1 := ow1k q hq; have h2 := lt93 q hq; omega), (fun q hq => by have h1 := ow2k q hq; have h2 := lt94 q hq; omega), hd12k⟩
            · skip
              intro D M1 W hD hM ⟨F1k, F2k, jb1, jb3, jb5, jb38, jb40, jb56, jbg65, jbs66, jbn67, jbg81, jbs82, jbn83, jA, jB, jP54, jP72, jA92, jhK0, jb85, jg1, jx1, ow1k, ow2k, hd12k⟩ hDD
              have hzjhK0 := Keep.size jhK0
              have hb1lt := jb1.lt
              have hb3lt := jb3.lt
              have hb5lt := jb5.lt
              have hb38lt := jb38.lt
              have hb40lt := jb40.lt
              have hb56lt := jb56.lt
              have hbg65lt := jbg65.lt
              have hbs66lt := jbs66.lt
              have hbn67lt := jbn67.lt
              have hbg81lt := jbg81.lt
              have hbs82lt := jbs82.lt
              have hbn83lt := jbn83.lt
              have hb85lt := jb85.lt
              have ltjP54 := SlT.lt jP54
              have ltjP72 := SlT.lt jP72
              have ltjA92 := SlT.lt jA92
              have ltg9 := Grd.lt jg1
              have ltx9 := Rgd.lt jx1
              have hmcl := mC_len (bldC xs (min xs.length 100)) ms (colL at_ (bldC xs (min xs.length 100))).length
              have hlen9 : (colL at_ (bldC xs (min xs.length 100))).length = ((bldC xs (min xs.length 100)).filter (fun c : Ci => c.b == at_)).length := by rw [colL_map, List.length_map]
              have hfl9 : ((bldC xs (min xs.length 100)).filter (fun c : Ci => c.b == at_)).length ≤ (bldC xs (min xs.length 100)).length := List.length_filter_le _ _
              have hg1lt := ltg9 _ (Grd.at_ jg1)
              have hx1lt := ltx9 _ (Rgd.at_ jx1)
              refine X_block ?_
              refine X_then ?_
              refine V_seq ?_
              refine V_region ?_
              refine OI_cell 22 (.tmp 9) 0 (.pointer (some ⟨g1, 0, none⟩)) (some 116) (by kernel_rfl) (by kernel_rfl) jb38 (m := 1) (by kernel_rfl) rfl ?_
              refine OI_call { callee := (Callee.value (Operand.func 23)), args := #[(Operand.tmp 116)], argTypes := #[22] } 23 #[.pointer (some ⟨g1, 0, none⟩)] (some 117) (by kernel_rfl) (by kernel_rfl) (by kernel_rfl) (cells_grd F1k g1 (mC (bldC xs (min xs.length 100)) ms (colL at_ (bldC xs (min xs.length 100))).length) _ jg1 (by omega)) ?_
              rintro _ w140 ⟨K142, capK142, rfl, hAK142, hk141, owK142⟩
              refine ⟨_, rfl, ?_⟩
              have hsz143 := Keep.size hk141
              replace jb1 := jb1.keep hk141 (fun f => f)
              have hb1lt := jb1.lt
              replace jb3 := jb3.keep hk141 (fun f => f)
              have hb3lt := jb3.lt
              replace jb5 := jb5.keep hk141 (fun f => f)
              have hb5lt := jb5.lt
              replace jb38 := jb38.keep hk141 (fun f => f)
              have hb38lt := jb38.lt
              replace jb40 := jb40.keep hk141 (fun f => f)
              have hb40lt := jb40.lt
              replace jb56 := jb56.keep hk141 (fun f => f)
              have hb56lt := jb56.lt
              replace jbg65 := jbg65.keep hk141 (fun f => f)
              have hbg65lt := jbg65.lt
              replace jbs66 := jbs66.keep hk141 (fun f => f)
              have hbs66lt := jbs66.lt
              replace jbn67 := jbn67.keep hk141 (fun f => f)
              have hbn67lt := jbn67.lt
              replace jbg81 := jbg81.keep hk141 (fun f => f)
              have hbg81lt := jbg81.lt
              replace jbs82 := jbs82.keep hk141 (fun f => f)
              have hbs82lt := jbs82.lt
              replace jbn83 := jbn83.keep hk141 (fun f => f)
              have hbn83lt := jbn83.lt
              replace jb85 := jb85.keep hk141 (fun f => f)
              have hb85lt := jb85.lt
              replace jA := ArgT.keep0 jA hk141
              replace jB := ArgT.keep0 jB hk141
              replace jP54 := SlT.keep0 jP54 hk141
              replace jP72 := SlT.keep0 jP72 hk141
              replace jA92 := SlT.keep0 jA92 hk141
              replace jhK0 := Keep.tr jhK0 (Keep.ofNone hk141); have hzjhK0 := Keep.size jhK0
              replace hDD := (Keep.block hk141 _ (Array.getElem?_eq_some_iff.1 hDD).1 (fun f => f)).trans hDD
              replace jg1 := Grd.keep jg1 hk141 (fun _ _ f => f)
              replace jx1 := Rgd.keep jx1 hk141 (fun _ _ f => f)
              have ltK142 := SlT.lt hAK142
              have hcp144 := jx1
              obtain ⟨_, hlen144, hFg144, hFlt144, R144, cap144, hat144, hAF144⟩ := hcp144
              have hg144 := hat144.blk
              have hA144 := hat144.sl
              have ltR144 := SlT.lt hA144
              have owR144 : ∀ q, inA R144 q → 0 ≤ q ∧ q ≠ b1 ∧ q ≠ b3 ∧ q ≠ b5 ∧ q ≠ b38 ∧ q ≠ b40 ∧ q ≠ b56 ∧ q ≠ bg65 ∧ q ≠ bs66 ∧ q ≠ bn67 ∧ q ≠ bg81 ∧ q ≠ bs82 ∧ q ≠ bn83 ∧ q ≠ b85 := fun q hq => by have h1 := ow2k q (hAF144 q hq); have h2 := ltx9 q (hAF144 q hq); omega
              refine OI_static 7 [(8, .pointer (some ⟨b5, 0, none⟩)), (10, .pointer (some ⟨b40, 0, none⟩)), (11, .pointer (some ⟨b56, 0, none⟩)), (13, .pointer (some ⟨b85, 0, none⟩)), (16, .slice K142 ((mC (bldC xs (min xs.length 100)) ms (colL at_ (bldC xs (min xs.length 100))).length).length) capK142), (17, .bool true)] (by kernel_rfl) ?_
              refine OI_end rfl ?_
              refine X_then ?_
              refine V_seq ?_
              refine V_region ?_
              refine OI_cell 3 (.tmp 13) 0 (.int .i64 (((colL at_ (bldC xs (min xs.length 100))).length : Nat) : Int)) (some 120) (by kernel_rfl) (by kernel_rfl) jb85 (m := 1) (by kernel_rfl) rfl ?_
              refine OI_cell 47 (.tmp 11) 0 (.slice P72 (((bldC xs (min xs.length 100)).filter (fun c : Ci => c.b == at_)).length) capP72) (some 121) (by kernel_rfl) (by kernel_rfl) jb56 (m := 1) (by kernel_rfl) rfl ?_
              refine OI_static 5 [(8, .pointer (some ⟨b5, 0, none⟩)), (10, .pointer (some ⟨b40, 0, none⟩)), (16, .slice K142 ((mC (bldC xs (min xs.length 100)) ms (colL at_ (bldC xs (min xs.length 100))).length).length) capK142), (17, .bool true), (124, .bool (decide ((((colL at_ (bldC xs (min xs.length 100))).length : Nat) : Int) = ((((bldC xs (min xs.length 100)).filter (fun c : Ci => c.b == at_)).length : Nat) : Int))))] (by kernel_rfl) ?_
              refine OI_eq [(8, .pointer (some ⟨b5, 0, none⟩)), (10, .pointer (some ⟨b40, 0, none⟩)), (16, .slice K142 ((mC (bldC xs (min xs.length 100)) ms (colL at_ (bldC xs (min xs.length 100))).length).length) capK142), (17, .bool true), (124, .bool true)] (by rw [decide_eq_true (by omega : (((colL at_ (bldC xs (min xs.length 100))).length : Nat) : Int) = ((((bldC xs (min xs.length 100)).filter (fun c : Ci => c.b == at_)).length : Nat) : Int))]) ?_
              refine OI_static 9 [(8, .pointer (some ⟨b5, 0, none⟩)), (10, .pointer (some ⟨b40, 0, none⟩)), (127, .bool true), (128, .slice K142 ((mC (bldC xs (min xs.length 100)) ms (colL at_ (bldC xs (min xs.length 100))).length).length) capK142)] (by kernel_rfl) ?_
              refine OI_cell 46 (.tmp 10) 0 (.pointer (some ⟨x1, 0, none⟩)) (some 129) (by kernel_rfl) (by kernel_rfl) jb40 (m := 1) (by kernel_rfl) rfl ?_
              refine OI_static 12 [(8, .pointer (some ⟨b5, 0, none⟩)), (127, .bool true), (128, .slice K142 ((mC (bldC xs (min xs.length 100)) ms (colL at_ (bldC xs (min xs.length 100))).length).length) capK142), (131, .pointer (some ⟨x1, 0, none⟩))] (by kernel_rfl) ?_
              refine OI_cell 47 (.tmp 131) 0 (.slice R144 ((mC (bldC xs (min xs.length 100)) ms (colL at_ (bldC xs (min xs.length 100))).length).length) cap144) (some 132) (by kernel_rfl) (by kernel_rfl) hg144 (m := 1) (by kernel_rfl) rfl ?_
              refine OI_call { callee := (Callee.value (Operand.func 24)), args := #[(Operand.tmp 128), (Operand.tmp 132)], argTypes := #[47, 47] } 24 #[.slice K142 ((mC (bldC xs (min xs.length 100)) ms (colL at_ (bldC xs (min xs.length 100))).length).length) capK142, .slice R144 ((mC (bldC xs (min xs.length 100)) ms (colL at_ (bldC xs (min xs.length 100))).length).length) cap144] (some 133) (by kernel_rfl) (by kernel_rfl) (by kernel_rfl) (same_spec K142 R144 capK142 cap144 (mC (bldC xs (min xs.length 100)) ms (colL at_ (bldC xs (min xs.length 100))).length) _ hAK142 hA144 (by omega)) ?_
              rintro _ w146 ⟨rfl, hk147⟩
              refine ⟨_, rfl, ?_⟩
              have hsz148 := Keep.size hk147
              replace jb1 := jb1.keep hk147 (fun f => f)
              have hb1lt := jb1.lt
              replace jb3 := jb3.keep hk147 (fun f => f)
              have hb3lt := jb3.lt
              replace jb5 := jb5.keep hk147 (fun f => f)
              have hb5lt := jb5.lt
              replace jb38 := jb38.keep hk147 (fun f => f)
              have hb38lt := jb38.lt
              replace jb40 := jb40.keep hk147 (fun f => f)
              have hb40lt := jb40.lt
              replace jb56 := jb56.keep hk147 (fun f => f)
              have hb56lt := jb56.lt
              replace jbg65 := jbg65.keep hk147 (fun f => f)
              have hbg65lt := jbg65.lt
              replace jbs66 := jbs66.keep hk147 (fun f => f)
              have hbs66lt := jbs66.lt
              replace jbn67 := jbn67.keep hk147 (fun f => f)
              have hbn67lt := jbn67.lt
              replace jbg81 := jbg81.keep hk147 (fun f => f)
              have hbg81lt := jbg81.lt
              replace jbs82 := jbs82.keep hk147 (fun f => f)
              have hbs82lt := jbs82.lt
              replace jbn83 := jbn83.keep hk147 (fun f => f)
              have hbn83lt := jbn83.lt
              replace jb85 := jb85.keep hk147 (fun f => f)
              have hb85lt := jb85.lt
              replace hg144 := hg144.keep hk147 (fun f => f)
              have hx1lt := hg144.lt
              replace jA := ArgT.keep0 jA hk147
              replace jB := ArgT.keep0 jB hk147
              replace jP54 := SlT.keep0 jP54 hk147
              replace jP72 := SlT.keep0 jP72 hk147
              replace jA92 := SlT.keep0 jA92 hk147
              replace hAK142 := SlT.keep0 hAK142 hk147
              replace hA144 := SlT.keep0 hA144 hk147
              replace jhK0 := Keep.tr jhK0 (Keep.ofNone hk147); have hzjhK0 := Keep.size jhK0
              replace hDD := (Keep.block hk147 _ (Array.getElem?_eq_some_iff.1 hDD).1 (fun f => f)).trans hDD
              replace jg1 := Grd.keep jg1 hk147 (fun _ _ f => f)
              replace jx1 := Rgd.keep jx1 hk147 (fun _ _ f => f)
              refine OI_static 16 [(8, .pointer (some ⟨b5, 0, none⟩)), (135, .bool true)] (by kernel_rfl) ?_
              refine OI_call { callee := (Callee.value (Operand.func 14)), args := #[], argTypes := #[] } 14 #[] (some 136) (by kernel_rfl) (by kernel_rfl) (by kernel_rfl) (known_spec _) ?_
              rintro _ w149 ⟨rfl, hk150⟩
              refine ⟨_, rfl, ?_⟩
              have hsz151 := Keep.size hk150
              replace jb1 := jb1.keep hk150 (fun f => f)
              have hb1lt := jb1.lt
              replace jb3 := jb3.keep hk150 (fun f => f)
              have hb3lt := jb3.lt
              replace jb5 := jb5.keep hk150 (fun f => f)
              have hb5lt := jb5.lt
              replace jb38 := jb38.keep hk150 (fun f => f)
              have hb38lt := jb38.lt
              replace jb40 := jb40.keep hk150 (fun f => f)
              have hb40lt := jb40.lt
              replace jb56 := jb56.keep hk150 (fun f => f)
              have hb56lt := jb56.lt
              replace jbg65 := jbg65.keep hk150 (fun f => f)
              have hbg65lt := jbg65.lt
              replace jbs66 := jbs66.keep hk150 (fun f => f)
              have hbs66lt := jbs66.lt
              replace jbn67 := jbn67.keep hk150 (fun f => f)
              have hbn67lt := jbn67.lt
              replace jbg81 := jbg81.keep hk150 (fun f => f)
              have hbg81lt := jbg81.lt
              replace jbs82 := jbs82.keep hk150 (fun f => f)
              have hbs82lt := jbs82.lt
              replace jbn83 := jbn83.keep hk150 (fun f => f)
              have hbn83lt := jbn83.lt
              replace jb85 := jb85.keep hk150 (fun f => f)
              have hb85lt := jb85.lt
              replace hg144 := hg144.keep hk150 (fun f => f)
              have hx1lt := hg144.lt
              replace jA := ArgT.keep0 jA hk150
              replace jB := ArgT.keep0 jB hk150
              replace jP54 := SlT.keep0 jP54 hk150
              replace jP72 := SlT.keep0 jP72 hk150
              replace jA92 := SlT.keep0 jA92 hk150
              replace hAK142 := SlT.keep0 hAK142 hk150
              replace hA144 := SlT.keep0 hA144 hk150
              replace jhK0 := Keep.tr jhK0 (Keep.ofNone hk150); have hzjhK0 := Keep.size jhK0
              replace hDD := (Keep.block hk150 _ (Array.getElem?_eq_some_iff.1 hDD).1 (fun f => f)).trans hDD
              replace jg1 := Grd.keep jg1 hk150 (fun _ _ f => f)
              replace jx1 := Rgd.keep jx1 hk150 (fun _ _ f => f)
              refine OI_static 18 [(8, .pointer (some ⟨b5, 0, none⟩)), (137, .bool true)] (by kernel_rfl) ?_
              refine OI_set (m := 1) (kd := false) 4 (.tmp 8) (.tmp 137) 0 (.bool true) [.bool true] none (by kernel_rfl) (by kernel_rfl) (by kernel_rfl) jb5 (by kernel_rfl) (by kernel_rfl) (by kernel_rfl) (Nat.le_of_ble_eq_true (by kernel_rfl)) (by simp [Value.oneCell']) ?_
              intro w152 hb5_155 hk153 hz154
              replace hb5_155 : Blk w152 b5 [.bool true] 4 := hb5_155
              have hsz156 := Keep.size hk153
              replace jb1 := jb1.keep hk153 (by show ¬ (_ = _); omega)
              have hb1lt := jb1.lt
              replace jb3 := jb3.keep hk153 (by show ¬ (_ = _); omega)
              have hb3lt := jb3.lt
              replace jb38 := jb38.keep hk153 (by show ¬ (_ = _); omega)
              have hb38lt := jb38.lt
              replace jb40 := jb40.keep hk153 (by show ¬ (_ = _); omega)
              have hb40lt := jb40.lt
              replace jb56 := jb56.keep hk153 (by show ¬ (_ = _); omega)
              have hb56lt := jb56.lt
              replace jbg65 := jbg65.keep hk153 (by show ¬ (_ = _); omega)
              have hbg65lt := jbg65.lt
              replace jbs66 := jbs66.keep hk153 (by show ¬ (_ = _); omega)
              have hbs66lt := jbs66.lt
              replace jbn67 := jbn67.keep hk153 (by show ¬ (_ = _); omega)
              have hbn67lt := jbn67.lt
              replace jbg81 := jbg81.keep hk153 (by show ¬ (_ = _); omega)
              have hbg81lt := jbg81.lt
              replace jbs82 := jbs82.keep hk153 (by show ¬ (_ = _); omega)
              have hbs82lt := jbs82.lt
              replace jbn83 := jbn83.keep hk153 (by show ¬ (_ = _); omega)
              have hbn83lt := jbn83.lt
              replace jb85 := jb85.keep hk153 (by show ¬ (_ = _); omega)
              have hb85lt := jb85.lt
              replace hg144 := hg144.keep hk153 (by show ¬ (_ = _); omega)
              have hx1lt := hg144.lt
              replace jA := ArgT.keep jA hk153 hA0 (fun k hk hs => by have hs : k = b5 := hs; omega)
              replace jB := ArgT.keep jB hk153 hB0 (fun k hk hs => by have hs : k = b5 := hs; omega)
              replace jP54 := SlT.keep jP54 hk153 (fun q hq hs => by have hs : q = b5 := hs; have g0 := owy92P54 q hq; have g1 := ltjP54 q hq; omega)
              replace jP72 := SlT.keep jP72 hk153 (fun q hq hs => by have hs : q = b5 := hs; have g0 := owy92P72 q hq; have g1 := ltjP72 q hq; omega)
              replace jA92 := SlT.keep jA92 hk153 (fun q hq hs => by have hs : q = b5 := hs; have g0 := owb92 q hq; have g1 := ltjA92 q hq; omega)
              replace hAK142 := SlT.keep hAK142 hk153 (fun q hq hs => by have hs : q = b5 := hs; have g0 := owK142 q hq; have g1 := ltK142 q hq; omega)
              replace hA144 := SlT.keep hA144 hk153 (fun q hq hs => by have hs : q = b5 := hs; have g0 := owR144 q hq; have g1 := ltR144 q hq; omega)
              replace jhK0 := Keep.fresh jhK0 hk153 (by intro i hi hs; first | exact hs | exact Or.inl hs | exact Or.inr hs | (exfalso; have hs2 : i = b5 := hs; omega)); have hzjhK0 := Keep.size jhK0
              replace hDD := (Keep.block hk153 _ (Array.getElem?_eq_some_iff.1 hDD).1 (by show ¬ (_ = _); omega)).trans hDD
              replace jg1 := Grd.keep jg1 hk153 (fun q hq hs => by have hs : q = b5 := hs; have g0 := ow1k q hq; have g1 := ltg9 q hq; omega)
              replace jx1 := Rgd.keep jx1 hk153 (fun q hq hs => by have hs : q = b5 := hs; have g0 := ow2k q hq; have g1 := ltx9 q hq; omega)
              refine OI_end rfl ?_
              refine X_then ?_
              refine V_ret ?_
              exact leave1 (.bool true) (.inl rfl) hDD (fun w' hk => ⟨res_cell1 (n1 := 1) rfl rfl (by kernel_rfl) (Blk.quiet hb5_155 hk) , ⟨rfl, Keep.quiet jhK0 hk (by omega)⟩⟩)
          · skip
            refine V_skip ?_
            refine X_then ?_
            refine V_seq ?_
            refine V_seq ?_
            refine V_region ?_
            refine OI_static 2 [(5, .pointer (some ⟨b1, 0, none⟩)), (6, .pointer (some ⟨b3, 0, none⟩)), (8, .pointer (some ⟨b5, 0, none⟩)), (9, .pointer (some ⟨b38, 0, none⟩)), (10, .pointer (some ⟨b40, 0, none⟩)), (11, .pointer (some ⟨b56, 0, none⟩)), (12, .func (.func 47) #[] #[.pointer (some ⟨bg65, 0, none⟩), .pointer (some ⟨bs66, 0, none⟩), .pointer (some ⟨bn67, 0, none⟩)]), (56, .bool false)] (by kernel_rfl) ?_
            refine OI_end rfl ?_
            refine X_then ?_
            refine V_false rfl ?_
            refine V_skip ?_
            refine X_then ?_
            refine V_seq ?_
            refine V_region ?_
            refine OI_alloc 3 (.int .i64 0) [.int .i64 0] (some 13) (by kernel_rfl) (by kernel_rfl) (by kernel_rfl) ?_
            intro b157 w157 e157 hb157 k157 z157
            have hsz158 := Keep.size k157
            replace hb1 := hb1.keep k157 (fun f => f)
            have hb1lt := hb1.lt
            replace hb3 := hb3.keep k157 (fun f => f)
            have hb3lt := hb3.lt
            replace hb5 := hb5.keep k157 (fun f => f)
            have hb5lt := hb5.lt
            replace hb38_45 := hb38_45.keep k157 (fun f => f)
            have hb38lt := hb38_45.lt
            replace hb40_50 := hb40_50.keep k157 (fun f => f)
            have hb40lt := hb40_50.lt
            replace hb56_61 := hb56_61.keep k157 (fun f => f)
            have hb56lt := hb56_61.lt
            replace hbg65 := hbg65.keep k157 (fun f => f)
            have hbg65lt := hbg65.lt
            replace hbs66 := hbs66.keep k157 (fun f => f)
            have hbs66lt := hbs66.lt
            replace hbn67 := hbn67.keep k157 (fun f => f)
            have hbn67lt := hbn67.lt
            replace hA := ArgT.keep0 hA k157
            replace hB := ArgT.keep0 hB k157
            replace hAP54 := SlT.keep0 hAP54 k157
            replace hK0 := Keep.tr hK0 (Keep.ofNone k157); have hzhK0 := Keep.size hK0
            replace ho1 := Grd.keep ho1 k157 (fun _ _ f => f)
            replace ho2 := Rgd.keep ho2 k157 (fun _ _ f => f)
            have hb157lt := hb157.lt
            refine OI_set (m := 1) (kd := false) 3 (.tmp 13) (.const (Value.int IntKind.i64 0)) 0 (.int .i64 0) [.int .i64 0] none (by kernel_rfl) (by kernel_rfl) (by kernel_rfl) hb157 (by kernel_rfl) (by kernel_rfl) (by kernel_rfl) (Nat.le_of_ble_eq_true (by kernel_rfl)) (by simp [Value.oneCell']) ?_
            intro w159 hb157_162 hk160 hz161
            replace hb157_162 : Blk w159 b157 [.int .i64 0] 3 := hb157_162
            have hsz163 := Keep.size hk160
            replace hb1 := hb1.keep hk160 (by show ¬ (_ = _); omega)
            have hb1lt := hb1.lt
            replace hb3 := hb3.keep hk160 (by show ¬ (_ = _); omega)
            have hb3lt := hb3.lt
            replace hb5 := hb5.keep hk160 (by show ¬ (_ = _); omega)
            have hb5lt := hb5.lt
            replace hb38_45 := hb38_45.keep hk160 (by show ¬ (_ = _); omega)
            have hb38lt := hb38_45.lt
            replace hb40_50 := hb40_50.keep hk160 (by show ¬ (_ = _); omega)
            have hb40lt := hb40_50.lt
            replace hb56_61 := hb56_61.keep hk160 (by show ¬ (_ = _); omega)
            have hb56lt := hb56_61.lt
            replace hbg65 := hbg65.keep hk160 (by show ¬ (_ = _); omega)
            have hbg65lt := hbg65.lt
            replace hbs66 := hbs66.keep hk160 (by show ¬ (_ = _); omega)
            have hbs66lt := hbs66.lt
            replace hbn67 := hbn67.keep hk160 (by show ¬ (_ = _); omega)
            have hbn67lt := hbn67.lt
            replace hA := ArgT.keep hA hk160 hA0 (fun k hk hs => by have hs : k = b157 := hs; omega)
            replace hB := ArgT.keep hB hk160 hB0 (fun k hk hs => by have hs : k = b157 := hs; omega)
            replace hAP54 := SlT.keep hAP54 hk160 (fun q hq hs => by have hs : q = b157 := hs; have g0 := owP54 q hq; have g1 := ltP54 q hq; omega)
            replace hK0 := Keep.fresh hK0 hk160 (by intro i hi hs; first | exact hs | exact Or.inl hs | exact Or.inr hs | (exfalso; have hs2 : i = b157 := hs; omega)); have hzhK0 := Keep.size hK0
            replace ho1 := Grd.keep ho1 hk160 (fun q hq hs => by have hs : q = b157 := hs; have g0 := own34 q hq; have g1 := lt35 q hq; omega)
            replace ho2 := Rgd.keep ho2 hk160 (fun q hq hs => by have hs : q = b157 := hs; have g0 := own36 q hq; have g1 := lt37 q hq; omega)
            refine OI_end rfl ?_
            refine X_then ?_
            refine V_seq ?_
            refine V_seq ?_
            refine V_region ?_
            refine OI_static 1 [(5, .pointer (some ⟨b1, 0, none⟩)), (6, .pointer (some ⟨b3, 0, none⟩)), (8, .pointer (some ⟨b5, 0, none⟩)), (9, .pointer (some ⟨b38, 0, none⟩)), (10, .pointer (some ⟨b40, 0, none⟩)), (11, .pointer (some ⟨b56, 0, none⟩)), (13, .pointer (some ⟨b157, 0, none⟩)), (57, .func (.func 47) #[] #[.pointer (some ⟨bg65, 0, none⟩), .pointer (some ⟨bs66, 0, none⟩), .pointer (some ⟨bn67, 0, none⟩)])] (by kernel_rfl) ?_
            refine OI_end rfl ?_
            refine X_then ?_
            refine V_block ?_
            have owz164P54 : ∀ q, inA P54 q → q ≠ b1 ∧ q ≠ b3 ∧ q ≠ b5 ∧ q ≠ b38 ∧ q ≠ b40 ∧ q ≠ b56 ∧ q ≠ bg65 ∧ q ≠ bs66 ∧ q ≠ bn67 ∧ q ≠ b157 := fun q hq => by have h1 := owP54 q hq; have h2 := ltP54 q hq; omega
            have owy164P54 := fun q hq => And.intro (owP54 q hq) (owz164P54 q hq)
            obtain ⟨hs164, hlen164, hFg164, hFlt164, A164, cap164, hat164, hAF164⟩ := id ho1
            have hA164 := hat164.sl
            have ltA164 := SlT.lt hA164
            have owA164 : ∀ q, inA A164 q → w5.heap.size ≤ q ∧ q ≠ b1 ∧ q ≠ b3 ∧ q ≠ b5 ∧ q ≠ b38 ∧ q ≠ b40 ∧ q ≠ b56 ∧ q ≠ bg65 ∧ q ≠ bs66 ∧ q ≠ bn67 ∧ q ≠ b157 ∧ q ≠ g1 := fun q hq => by have h1 := own34 q (hAF164 q hq); have h2 := lt35 q (hAF164 q hq); have h3 : q ≠ g1 := fun he => hat164.off (he ▸ hq); omega
            have owx164 : ∀ q, inA A164 q → q ≠ x1 := fun q hq he => hd12 q (hAF164 q hq) (he ▸ Rgd.at_ ho2)
            have owb164 := fun q hq => And.intro (owA164 q hq) (owx164 q hq)
            refine V_pick [(5, .pointer (some ⟨b1, 0, none⟩)), (6, .pointer (some ⟨b3, 0, none⟩)), (8, .pointer (some ⟨b5, 0, none⟩)), (9, .pointer (some ⟨b38, 0, none⟩)), (10, .pointer (some ⟨b40, 0, none⟩)), (11, .pointer (some ⟨b56, 0, none⟩)), (13, .pointer (some ⟨b157, 0, none⟩)), (57, .func (.func 47) #[] #[.pointer (some ⟨bg65, 0, none⟩), .pointer (some ⟨bs66, 0, none⟩), .pointer (some ⟨bn67, 0, none⟩)])] rfl ?_
            have hN0 : w.heap.size ≤ w159.heap.size := hzhK0
            refine V_range2 (gf := 47) (caps := #[.pointer (some ⟨bg65, 0, none⟩), .pointer (some ⟨bs66, 0, none⟩), .pointer (some ⟨bn67, 0, none⟩)]) (m := (rowL at_ (bldC xs (min xs.length 100))).length) (by kernel_rfl) (by kernel_rfl) (by kernel_rfl) (along1_iter0 bg65 bs66 bn67 g1 cap164 A164 (bldC xs (min xs.length 100)) at_ (by omega)) (⟨hbg65, hat164, ⟨hbs66, hbn67, hA164⟩⟩) (fun W W' h k => ⟨h.1.quiet k, h.2.1.quiet k, h.2.2.quiet k⟩) (enc2_size _) (fun M1 k W => ∃ F1k : Nat → Prop, ∃ F2k : Nat → Prop, (Blk W b1 [.slice B ms.length capb] 40) ∧ (Blk W b3 [.int .i64 way] 3) ∧ (Blk W b5 [.bool false] 4) ∧ (Blk W b38 [.pointer (some ⟨g1, 0, none⟩)] 22) ∧ (Blk W b40 [.pointer (some ⟨x1, 0, none⟩)] 46) ∧ (Blk W b56 [.slice P54 (((bldC xs (min xs.length 100)).filter (fun c : Ci => c.a == at_)).length) capP54] 47) ∧ (Blk W bg65 [.pointer (some ⟨g1, 0, none⟩)] 22) ∧ (Blk W bs66 [.int .i64 0] 3) ∧ (Blk W bn67 [.int .i64 at_] 3) ∧ (ArgT W 4 Ac4.cells A cap xs) ∧ (ArgT W 4 Ac4.cells B capb ms) ∧ (SlT W 3 Ci.cells P54 capP54 ((bldC xs (min xs.length 100)).filter (fun c : Ci => c.a == at_))) ∧ (SlT W 3 Ci.cells A164 cap164 (bldC xs (min xs.length 100))) ∧ (Keep none_ w W) ∧ (Blk W b157 [.int .i64 ((k : Nat) : Int)] 3) ∧ (Grd F1k W g1 (mC (bldC xs (min xs.length 100)) ms k)) ∧ (Rgd F2k W x1 (mC (bldC xs (min xs.length 100)) ms k)) ∧ (∀ q, F1k q → w5.heap.size ≤ q ∧ q ≠ b1 ∧ q ≠ b3 ∧ q ≠ b5 ∧ q ≠ b38 ∧ q ≠ b40 ∧ q ≠ b56 ∧ q ≠ bg65 ∧ q ≠ bs66 ∧ q ≠ bn67 ∧ q ≠ b157 ∧ (q < w159.heap.size ∨ M1 ≤ q)) ∧ (∀ q, F2k q → w5.heap.size ≤ q ∧ q ≠ b1 ∧ q ≠ b3 ∧ q ≠ b5 ∧ q ≠ b38 ∧ q ≠ b40 ∧ q ≠ b56 ∧ q ≠ bg65 ∧ q ≠ bs66 ∧ q ≠ bn67 ∧ q ≠ b157 ∧ (q < w159.heap.size ∨ M1 ≤ q)) ∧ (∀ q, F1k q → ¬ F2k q)) (fun M1 c k W => False) (fun M1 k W W' h hk => by obtain ⟨F1k, F2k, jb1, jb3, jb5, jb38, jb40, jb56, jbg65, jbs66, jbn67, jA, jB, jP54, jA164, jhK0, jb157, jg1, jx1, ow1k, ow2k, hd12k⟩ := h; exact ⟨F1k, F2k, jb1.quiet hk, jb3.quiet hk, jb5.quiet hk, jb38.quiet hk, jb40.quiet hk, jb56.quiet hk, jbg65.quiet hk, jbs66.quiet hk, jbn67.quiet hk, jA.quiet hk, jB.quiet hk, jP54.quiet hk, jA164.quiet hk, jhK0.quiet hk (by omega), jb157.quiet hk, Grd.quiet jg1 hk, Rgd.quiet jx1 hk, ow1k, ow2k, hd12k⟩) (fun _ _ _ _ _ h _ => h.elim) (fun M1 hM1 => ⟨F1, F2, hb1, hb3, hb5, hb38_45, hb40_50, hb56_61, hbg65, hbs66, hbn67, hA, hB, hAP54, hA164, hK0, hb157_162, ho1, ho2, (fun q hq => by have h1 := own34 q hq; have h2 := lt35 q hq; omega), (fun q hq => by have h1 := own36 q hq; have h2 := lt37 q hq; omega), hd12⟩) (fun M1 k W h => by obtain ⟨F1k, F2k, jb1, jb3, jb5, jb38, jb40, jb56, jbg65, jbs66, jbn67, jA, jB, jP54, jA164, jhK0, jb157, jg1, jx1, ow1k, ow2k, hd12k⟩ := h; exact ⟨jbs66, jbn67, jA164⟩) ?_ ?_ (fun _ _ _ _ _ _ _ _ h _ => h.elim)
            · skip
              intro lp D M1 k W hD hl hM hMW hkm ⟨F1k, F2k, jb1, jb3, jb5, jb38, jb40, jb56, jbg65, jbs66, jbn67, jA, jB, jP54, jA164, jhK0, jb157, jg1, jx1, ow1k, ow2k, hd12k⟩ ⟨rr, hrr⟩ hDD
              have hzjhK0 := Keep.size jhK0
              have hb1lt := jb1.lt
              have hb3lt := jb3.lt
              have hb5lt := jb5.lt
              have hb38lt := jb38.lt
              have hb40lt := jb40.lt
              have hb56lt := jb56.lt
              have hbg65lt := jbg65.lt
              have hbs66lt := jbs66.lt
              have hbn67lt := jbn67.lt
              have hb157lt := jb157.lt
              have ltjP54 := SlT.lt jP54
              have ltjA164 := SlT.lt jA164
              obtain ⟨c, hc⟩ : ∃ c, ((bldC xs (min xs.length 100)).filter (fun c : Ci => c.a == at_))[k]? = some c := ⟨_, List.getElem?_eq_getElem (by have h9 := hkm; rw [rowL_map, List.length_map] at h9; exact h9)⟩
              have hcl := (List.getElem?_eq_some_iff.1 hc).1
              have hflk : ((bldC xs (min xs.length 100)).filter (fun c : Ci => c.a == at_)).length ≤ (bldC xs (min xs.length 100)).length := List.length_filter_le _ _
              have hck : (rowL at_ (bldC xs (min xs.length 100)))[k]? = some (c.b, c.v) := by rw [rowL_map, List.getElem?_map, hc]; rfl
              rw [enc2_at hck]
              refine V_pick [(5, .pointer (some ⟨b1, 0, none⟩)), (6, .pointer (some ⟨b3, 0, none⟩)), (8, .pointer (some ⟨b5, 0, none⟩)), (9, .pointer (some ⟨b38, 0, none⟩)), (10, .pointer (some ⟨b40, 0, none⟩)), (11, .pointer (some ⟨b56, 0, none⟩)), (13, .pointer (some ⟨b157, 0, none⟩)), (58, .int .i64 c.b), (59, .int .i64 c.v)] rfl ?_
              have hfen : Keep (fen w159.heap.size M1) W W := Keep.refl _ _
              have hzhfen := Keep.size hfen
              have lt165 := Grd.lt jg1
              have lt166 := Rgd.lt jx1
              have hg1lt := lt165 _ (Grd.at_ jg1)
              have hx1lt := lt166 _ (Rgd.at_ jx1)
              refine V_seq ?_
              refine V_region ?_
              refine OI_static 1 [(5, .pointer (some ⟨b1, 0, none⟩)), (6, .pointer (some ⟨b3, 0, none⟩)), (8, .pointer (some ⟨b5, 0, none⟩)), (9, .pointer (some ⟨b38, 0, none⟩)), (10, .pointer (some ⟨b40, 0, none⟩)), (11, .pointer (some ⟨b56, 0, none⟩)), (13, .pointer (some ⟨b157, 0, none⟩)), (14, .int .i64 c.b), (59, .int .i64 c.v)] (by kernel_rfl) ?_
              refine OI_end rfl ?_
              refine X_then ?_
              refine V_region ?_
              refine OI_static 1 [(5, .pointer (some ⟨b1, 0, none⟩)), (6, .pointer (some ⟨b3, 0, none⟩)), (8, .pointer (some ⟨b5, 0, none⟩)), (9, .pointer (some ⟨b38, 0, none⟩)), (10, .pointer (some ⟨b40, 0, none⟩)), (11, .pointer (some ⟨b56, 0, none⟩)), (13, .pointer (some ⟨b157, 0, none⟩)), (14, .int .i64 c.b), (15, .int .i64 c.v)] (by kernel_rfl) ?_
              refine OI_end rfl ?_
              refine X_begin2 hfen ?_
              intro W2 hk2 ⟨r2, hr2⟩ hD2
              have hsz167 := Keep.size hk2
              replace jb1 := Blk.quiet jb1 hk2
              have hb1lt := jb1.lt
              replace jb3 := Blk.quiet jb3 hk2
              have hb3lt := jb3.lt
              replace jb5 := Blk.quiet jb5 hk2
              have hb5lt := jb5.lt
              replace jb38 := Blk.quiet jb38 hk2
              have hb38lt := jb38.lt
              replace jb40 := Blk.quiet jb40 hk2
              have hb40lt := jb40.lt
              replace jb56 := Blk.quiet jb56 hk2
              have hb56lt := jb56.lt
              replace jbg65 := Blk.quiet jbg65 hk2
              have hbg65lt := jbg65.lt
              replace jbs66 := Blk.quiet jbs66 hk2
              have hbs66lt := jbs66.lt
              replace jbn67 := Blk.quiet jbn67 hk2
              have hbn67lt := jbn67.lt
              replace jb157 := Blk.quiet jb157 hk2
              have hb157lt := jb157.lt
              replace jA := ArgT.quiet jA hk2
              replace jB := ArgT.quiet jB hk2
              replace jP54 := SlT.quiet jP54 hk2
              replace jA164 := SlT.quiet jA164 hk2
              replace jhK0 := Keep.quiet jhK0 hk2 (by omega); have hzjhK0 := Keep.size jhK0
              replace jg1 := Grd.quiet jg1 hk2
              replace jx1 := Rgd.quiet jx1 hk2
              have hzhk2 := Keep.size hk2
              have hfenb : Keep (fen w159.heap.size M1) W2 W2 := Keep.refl _ _
              have hzhfenb := Keep.size hfenb
              refine V_block ?_
              refine V_seq ?_
              refine V_seq ?_
              refine V_region ?_
              refine OI_cell 3 (.tmp 13) 0 (.int .i64 ((k : Nat) : Int)) (some 60) (by kernel_rfl) (by kernel_rfl) jb157 (m := 1) (by kernel_rfl) rfl ?_
              refine OI_cell 47 (.tmp 11) 0 (.slice P54 (((bldC xs (min xs.length 100)).filter (fun c : Ci => c.a == at_)).length) capP54) (some 61) (by kernel_rfl) (by kernel_rfl) jb56 (m := 1) (by kernel_rfl) rfl ?_
              refine OI_static 5 [(5, .pointer (some ⟨b1, 0, none⟩)), (6, .pointer (some ⟨b3, 0, none⟩)), (8, .pointer (some ⟨b5, 0, none⟩)), (9, .pointer (some ⟨b38, 0, none⟩)), (10, .pointer (some ⟨b40, 0, none⟩)), (11, .pointer (some ⟨b56, 0, none⟩)), (13, .pointer (some ⟨b157, 0, none⟩)), (14, .int .i64 c.b), (15, .int .i64 c.v), (64, .bool (decide (((k : Nat) : Int) ≥ ((((bldC xs (min xs.length 100)).filter (fun c : Ci => c.a == at_)).length : Nat) : Int))))] (by kernel_rfl) ?_
              refine OI_eq [(5, .pointer (some ⟨b1, 0, none⟩)), (6, .pointer (some ⟨b3, 0, none⟩)), (8, .pointer (some ⟨b5, 0, none⟩)), (9, .pointer (some ⟨b38, 0, none⟩)), (10, .pointer (some ⟨b40, 0, none⟩)), (11, .pointer (some ⟨b56, 0, none⟩)), (13, .pointer (some ⟨b157, 0, none⟩)), (14, .int .i64 c.b), (15, .int .i64 c.v), (64, .bool false)] (by rw [decide_eq_false (by omega : ¬ ((k : Nat) : Int) ≥ ((((bldC xs (min xs.length 100)).filter (fun c : Ci => c.a == at_)).length : Nat) : Int))]) ?_
              refine OI_static 6 [(5, .pointer (some ⟨b1, 0, none⟩)), (6, .pointer (some ⟨b3, 0, none⟩)), (8, .pointer (some ⟨b5, 0, none⟩)), (9, .pointer (some ⟨b38, 0, none⟩)), (10, .pointer (some ⟨b40, 0, none⟩)), (11, .pointer (some ⟨b56, 0, none⟩)), (13, .pointer (some ⟨b157, 0, none⟩)), (14, .int .i64 c.b), (64, .bool false), (65, .int .i64 c.v)] (by kernel_rfl) ?_
              refine OI_cell 47 (.tmp 11) 0 (.slice P54 (((bldC xs (min xs.length 100)).filter (fun c : Ci => c.a == at_)).length) capP54) (some 66) (by kernel_rfl) (by kernel_rfl) jb56 (m := 1) (by kernel_rfl) rfl ?_
              refine OI_cell 3 (.tmp 13) 0 (.int .i64 ((k : Nat) : Int)) (some 67) (by kernel_rfl) (by kernel_rfl) jb157 (m := 1) (by kernel_rfl) rfl ?_
              obtain ⟨b169, o169, L169, T169, rfl, hat169⟩ := SlT.open_ jP54 (by first | omega | (simp only [List.length_map]; omega) | (simp; done) | (simp; omega))
              have hb169lt := hat169.blk.lt
              have hob170 := owy164P54 b169 ⟨_, rfl, rfl⟩
              have hob171 := ltjP54 b169 ⟨_, rfl, rfl⟩
              refine OI_pure (some 68) (.indexAddr 47 (.tmp 66) (.tmp 67)) (by kernel_rfl) (pure_idxN (b := b169) (o := o169) (len := ((bldC xs (min xs.length 100)).filter (fun c : Ci => c.a == at_)).length) (cap := capP54) (kd := .i64) (j := k) (E := 59) (sz := 3) (by_ := 24) (by kernel_rfl) (by kernel_rfl) (by kernel_rfl) (by omega)) ?_
              refine OI_static 10 [(5, .pointer (some ⟨b1, 0, none⟩)), (6, .pointer (some ⟨b3, 0, none⟩)), (8, .pointer (some ⟨b5, 0, none⟩)), (9, .pointer (some ⟨b38, 0, none⟩)), (10, .pointer (some ⟨b40, 0, none⟩)), (11, .pointer (some ⟨b56, 0, none⟩)), (13, .pointer (some ⟨b157, 0, none⟩)), (14, .int .i64 c.b), (64, .bool false), (65, .int .i64 c.v), (69, .pointer (some ⟨b169, o169 + k * 3 + 2, none⟩))] (by kernel_rfl) ?_
              refine OI_cell 3 (.tmp 69) (o169 + k * 3 + 2) (.int .i64 c.v) (some 70) (by kernel_rfl) (by kernel_rfl) hat169.blk (m := 1) (by kernel_rfl) (At.cell hat169 (es_at hc) rfl) ?_
              refine OI_static 14 [(5, .pointer (some ⟨b1, 0, none⟩)), (6, .pointer (some ⟨b3, 0, none⟩)), (8, .pointer (some ⟨b5, 0, none⟩)), (9, .pointer (some ⟨b38, 0, none⟩)), (10, .pointer (some ⟨b40, 0, none⟩)), (11, .pointer (some ⟨b56, 0, none⟩)), (13, .pointer (some ⟨b157, 0, none⟩)), (14, .int .i64 c.b), (73, .bool (!(decide (c.v = c.v))))] (by kernel_rfl) ?_
              refine OI_eq [(5, .pointer (some ⟨b1, 0, none⟩)), (6, .pointer (some ⟨b3, 0, none⟩)), (8, .pointer (some ⟨b5, 0, none⟩)), (9, .pointer (some ⟨b38, 0, none⟩)), (10, .pointer (some ⟨b40, 0, none⟩)), (11, .pointer (some ⟨b56, 0, none⟩)), (13, .pointer (some ⟨b157, 0, none⟩)), (14, .int .i64 c.b), (73, .bool false)] (by rw [decide_eq_true (rfl : c.v = c.v)]; rfl) ?_
              refine OI_cell 3 (.tmp 6) 0 (.int .i64 way) (some 74) (by kernel_rfl) (by kernel_rfl) jb3 (m := 1) (by kernel_rfl) rfl ?_
              refine OI_static 17 [(5, .pointer (some ⟨b1, 0, none⟩)), (6, .pointer (some ⟨b3, 0, none⟩)), (8, .pointer (some ⟨b5, 0, none⟩)), (9, .pointer (some ⟨b38, 0, none⟩)), (10, .pointer (some ⟨b40, 0, none⟩)), (11, .pointer (some ⟨b56, 0, none⟩)), (13, .pointer (some ⟨b157, 0, none⟩)), (14, .int .i64 c.b), (73, .bool false), (76, .bool (decide (way = 0)))] (by kernel_rfl) ?_
              refine OI_eq [(5, .pointer (some ⟨b1, 0, none⟩)), (6, .pointer (some ⟨b3, 0, none⟩)), (8, .pointer (some ⟨b5, 0, none⟩)), (9, .pointer (some ⟨b38, 0, none⟩)), (10, .pointer (some ⟨b40, 0, none⟩)), (11, .pointer (some ⟨b56, 0, none⟩)), (13, .pointer (some ⟨b157, 0, none⟩)), (14, .int .i64 c.b), (73, .bool false), (76, .bool true)] (by rw [decide_eq_true (by omega : way = 0)]) ?_
              refine OI_static 18 [(5, .pointer (some ⟨b1, 0, none⟩)), (6, .pointer (some ⟨b3, 0, none⟩)), (8, .pointer (some ⟨b5, 0, none⟩)), (9, .pointer (some ⟨b38, 0, none⟩)), (10, .pointer (some ⟨b40, 0, none⟩)), (11, .pointer (some ⟨b56, 0, none⟩)), (13, .pointer (some ⟨b157, 0, none⟩)), (14, .int .i64 c.b), (73, .bool false), (76, .bool true), (77, .int .i64 c.b)] (by kernel_rfl) ?_
              refine OI_cell 47 (.tmp 11) 0 (.slice (some ⟨b169, o169, none⟩) (((bldC xs (min xs.length 100)).filter (fun c : Ci => c.a == at_)).length) capP54) (some 78) (by kernel_rfl) (by kernel_rfl) jb56 (m := 1) (by kernel_rfl) rfl ?_
              refine OI_cell 3 (.tmp 13) 0 (.int .i64 ((k : Nat) : Int)) (some 79) (by kernel_rfl) (by kernel_rfl) jb157 (m := 1) (by kernel_rfl) rfl ?_
              refine OI_pure (some 80) (.indexAddr 47 (.tmp 78) (.tmp 79)) (by kernel_rfl) (pure_idxN (b := b169) (o := o169) (len := ((bldC xs (min xs.length 100)).filter (fun c : Ci => c.a == at_)).length) (cap := capP54) (kd := .i64) (j := k) (E := 59) (sz := 3) (by_ := 24) (by kernel_rfl) (by kernel_rfl) (by kernel_rfl) (by omega)) ?_
              refine OI_static 22 [(5, .pointer (some ⟨b1, 0, none⟩)), (6, .pointer (some ⟨b3, 0, none⟩)), (8, .pointer (some ⟨b5, 0, none⟩)), (9, .pointer (some ⟨b38, 0, none⟩)), (10, .pointer (some ⟨b40, 0, none⟩)), (11, .pointer (some ⟨b56, 0, none⟩)), (13, .pointer (some ⟨b157, 0, none⟩)), (14, .int .i64 c.b), (73, .bool false), (76, .bool true), (77, .int .i64 c.b), (81, .pointer (some ⟨b169, o169 + k * 3 + 1, none⟩))] (by kernel_rfl) ?_
              refine OI_cell 3 (.tmp 81) (o169 + k * 3 + 1) (.int .i64 c.b) (some 82) (by kernel_rfl) (by kernel_rfl) hat169.blk (m := 1) (by kernel_rfl) (At.cell hat169 (es_at hc) rfl) ?_
              refine OI_static 27 [(5, .pointer (some ⟨b1, 0, none⟩)), (6, .pointer (some ⟨b3, 0, none⟩)), (8, .pointer (some ⟨b5, 0, none⟩)), (9, .pointer (some ⟨b38, 0, none⟩)), (10, .pointer (some ⟨b40, 0, none⟩)), (11, .pointer (some ⟨b56, 0, none⟩)), (13, .pointer (some ⟨b157, 0, none⟩)), (14, .int .i64 c.b), (86, .bool (!(decide (c.b = c.b))))] (by kernel_rfl) ?_
              refine OI_eq [(5, .pointer (some ⟨b1, 0, none⟩)), (6, .pointer (some ⟨b3, 0, none⟩)), (8, .pointer (some ⟨b5, 0, none⟩)), (9, .pointer (some ⟨b38, 0, none⟩)), (10, .pointer (some ⟨b40, 0, none⟩)), (11, .pointer (some ⟨b56, 0, none⟩)), (13, .pointer (some ⟨b157, 0, none⟩)), (14, .int .i64 c.b), (86, .bool false)] (by rw [decide_eq_true (rfl : c.b = c.b)]; rfl) ?_
              refine OI_cell 3 (.tmp 6) 0 (.int .i64 way) (some 87) (by kernel_rfl) (by kernel_rfl) jb3 (m := 1) (by kernel_rfl) rfl ?_
              refine OI_static 30 [(5, .pointer (some ⟨b1, 0, none⟩)), (8, .pointer (some ⟨b5, 0, none⟩)), (9, .pointer (some ⟨b38, 0, none⟩)), (10, .pointer (some ⟨b40, 0, none⟩)), (11, .pointer (some ⟨b56, 0, none⟩)), (13, .pointer (some ⟨b157, 0, none⟩)), (14, .int .i64 c.b), (86, .bool false), (89, .bool (decide (way = 1)))] (by kernel_rfl) ?_
              refine OI_eq [(5, .pointer (some ⟨b1, 0, none⟩)), (8, .pointer (some ⟨b5, 0, none⟩)), (9, .pointer (some ⟨b38, 0, none⟩)), (10, .pointer (some ⟨b40, 0, none⟩)), (11, .pointer (some ⟨b56, 0, none⟩)), (13, .pointer (some ⟨b157, 0, none⟩)), (14, .int .i64 c.b), (86, .bool false), (89, .bool false)] (by rw [decide_eq_false (by omega : ¬ way = 1)]) ?_
              refine OI_static 39 [(5, .pointer (some ⟨b1, 0, none⟩)), (8, .pointer (some ⟨b5, 0, none⟩)), (9, .pointer (some ⟨b38, 0, none⟩)), (10, .pointer (some ⟨b40, 0, none⟩)), (13, .pointer (some ⟨b157, 0, none⟩)), (98, .bool false)] (by kernel_rfl) ?_
              refine OI_end rfl ?_
              refine X_then ?_
              refine V_false rfl ?_
              refine V_skip ?_
              refine X_then ?_
              refine V_seq ?_
              refine V_seq ?_
              refine V_draws (acts [11]) none_ [[0, 1, 2, 3, 4, 5, 6, 7, 8, 9, 10, 11, 12, 13]] (by kernel_rfl) (by repeat first | exact (by first | exact sure_postM | exact sure_rQ2 | exact sure_no | exact sure_body (by rintro _ _ ⟨h, _⟩; exact ⟨_, h⟩)) | refine sure_then ?_ | refine sure_block ?_ | refine sure_join ?_) (by kernel_rfl) ?_
              intro w177 hk176 he178 L hL179
              have hsz180 := Keep.size hk176
              replace jb1 := jb1.keep hk176 (fun f => f)
              have hb1lt := jb1.lt
              replace jb3 := jb3.keep hk176 (fun f => f)
              have hb3lt := jb3.lt
              replace jb5 := jb5.keep hk176 (fun f => f)
              have hb5lt := jb5.lt
              replace jb38 := jb38.keep hk176 (fun f => f)
              have hb38lt := jb38.lt
              replace jb40 := jb40.keep hk176 (fun f => f)
              have hb40lt := jb40.lt
              replace jb56 := jb56.keep hk176 (fun f => f)
              have hb56lt := jb56.lt
              replace jbg65 := jbg65.keep hk176 (fun f => f)
              have hbg65lt := jbg65.lt
              replace jbs66 := jbs66.keep hk176 (fun f => f)
              have hbs66lt := jbs66.lt
              replace jbn67 := jbn67.keep hk176 (fun f => f)
              have hbn67lt := jbn67.lt
              replace jb157 := jb157.keep hk176 (fun f => f)
              have hb157lt := jb157.lt
              replace hat169 := hat169.keep hk176 (fun f => f)
              have hb169lt := hat169.blk.lt
              replace jA := ArgT.keep0 jA hk176
              replace jB := ArgT.keep0 jB hk176
              replace jP54 := SlT.keep0 jP54 hk176
              replace jA164 := SlT.keep0 jA164 hk176
              replace jhK0 := Keep.tr jhK0 (Keep.ofNone hk176); have hzjhK0 := Keep.size jhK0
              replace jg1 := Grd.keep jg1 hk176 (fun _ _ f => f)
              replace jx1 := Rgd.keep jx1 hk176 (fun _ _ f => f)
              replace hfenb := Keep.tr hfenb (Keep.ofNone hk176); have hzhfenb := Keep.size hfenb
              have qjb1 := jb1
              have qjb3 := jb3
              have qjb5 := jb5
              have qjb38 := jb38
              have qjb40 := jb40
              have qjb56 := jb56
              have qjbg65 := jbg65
              have qjbs66 := jbs66
              have qjbn67 := jbn67
              have qjb157 := jb157
              have qhat169 := hat169
              have K181 : Keep none_ w177 w177 := Keep.refl _ _
              obtain rfl := List.mem_singleton.1 hL179
              refine GI_cell 3 (.tmp 13) 0 (.int .i64 ((k : Nat) : Int)) (some 99) (by kernel_rfl) (by kernel_rfl) (by kernel_rfl) qjb157 (fun f => f) (m := 1) (by kernel_rfl) rfl ?_
              refine GI_cell 40 (.tmp 5) 0 (.slice B ms.length capb) (some 100) (by kernel_rfl) (by kernel_rfl) (by kernel_rfl) qjb1 (fun f => f) (m := 1) (by kernel_rfl) rfl ?_
              refine GI_static [5, 6, 7, 8, 9, 10, 11, 12, 13] [(5, .pointer (some ⟨b1, 0, none⟩)), (8, .pointer (some ⟨b5, 0, none⟩)), (9, .pointer (some ⟨b38, 0, none⟩)), (10, .pointer (some ⟨b40, 0, none⟩)), (13, .pointer (some ⟨b157, 0, none⟩)), (103, .bool (decide (((k : Nat) : Int) < ((ms.length : Nat) : Int))))] (by kernel_rfl) ?_
              by_cases hg182 : ((k : Nat) : Int) < ((ms.length : Nat) : Int)
              · skip
                refine GI_eq [(5, .pointer (some ⟨b1, 0, none⟩)), (8, .pointer (some ⟨b5, 0, none⟩)), (9, .pointer (some ⟨b38, 0, none⟩)), (10, .pointer (some ⟨b40, 0, none⟩)), (13, .pointer (some ⟨b157, 0, none⟩)), (103, .bool true)] (by first | simp [hg182] | rfl) ?_
                refine GI_cell 22 (.tmp 9) 0 (.pointer (some ⟨g1, 0, none⟩)) (some 104) (by kernel_rfl) (by kernel_rfl) (by kernel_rfl) qjb38 (fun f => f) (m := 1) (by kernel_rfl) rfl ?_
                refine GI_cell 46 (.tmp 10) 0 (.pointer (some ⟨x1, 0, none⟩)) (some 105) (by kernel_rfl) (by kernel_rfl) (by kernel_rfl) qjb40 (fun f => f) (m := 1) (by kernel_rfl) rfl ?_
                refine GI_cell 40 (.tmp 5) 0 (.slice B ms.length capb) (some 106) (by kernel_rfl) (by kernel_rfl) (by kernel_rfl) qjb1 (fun f => f) (m := 1) (by kernel_rfl) rfl ?_
                refine GI_cell 3 (.tmp 13) 0 (.int .i64 ((k : Nat) : Int)) (some 107) (by kernel_rfl) (by kernel_rfl) (by kernel_rfl) qjb157 (fun f => f) (m := 1) (by kernel_rfl) rfl ?_
                obtain ⟨b183, o183, L183, rfl, hat183⟩ := ArgT.open_ jB (by first | omega | (simp only [List.length_map]; omega) | (simp; done) | (simp; omega))
                have hb183lt0 := ArgT.lt hB0 (by first | omega | (simp only [List.length_map]; omega) | (simp; done) | (simp; omega))
                have hb183lt := hat183.blk.lt
                refine GI_pure (some 108) (.indexAddr 40 (.tmp 106) (.tmp 107)) (by kernel_rfl) (by kernel_rfl) (pure_idxN (b := b183) (o := o183) (len := ms.length) (cap := capb) (kd := .i64) (j := k) (E := 42) (sz := 4) (by_ := 32) (by kernel_rfl) (by kernel_rfl) (by kernel_rfl) (by omega)) ?_
                obtain ⟨x184, hx185⟩ : ∃ x, ms[k]? = some x := ⟨_, List.getElem?_eq_getElem (by first | omega | (simp only [List.length_map]; omega))⟩
                refine GI_aggR 42 (.tmp 108) (o183 + k * 4) (Ac4.cells x184) (some 109) (by kernel_rfl) (by kernel_rfl) (by kernel_rfl) hat183.blk (fun f => f) (m := 4) (by kernel_rfl) (AtR.elem' hat183 _ _ (es_at hx185)) (AtR.len hat183 (es_at hx185)) ?_
                refine GI_call0 { callee := (Callee.value (Operand.func 22)), args := #[(Operand.tmp 104), (Operand.tmp 105), (Operand.tmp 109)], argTypes := #[22, 46, 42] } 22 #[.pointer (some ⟨g1, 0, none⟩), .pointer (some ⟨x1, 0, none⟩), .agg (Ac4.cells x184).toArray] (some 110) (by kernel_rfl) (by kernel_rfl) (by kernel_rfl) (by kernel_rfl) (by kernel_rfl) (act_gf F1k F2k g1 x1 (mC (bldC xs (min xs.length 100)) ms k) x184 _ jg1 jx1 hd12k (by have := mC_len (bldC xs (min xs.length 100)) ms k; omega)) ?_
                rintro _ w186 ⟨rfl, ⟨F188, F191, ho189, ho192, hfr190, hfr193, hdis194⟩, hk187⟩
                refine ⟨_, rfl, ?_⟩
                have hsz195 := Keep.size hk187
                replace jb1 := jb1.keep hk187 (by show ¬ (b1 = g1 ∨ b1 = x1); omega)
                have hb1lt := jb1.lt
                replace jb3 := jb3.keep hk187 (by show ¬ (b3 = g1 ∨ b3 = x1); omega)
                have hb3lt := jb3.lt
                replace jb5 := jb5.keep hk187 (by show ¬ (b5 = g1 ∨ b5 = x1); omega)
                have hb5lt := jb5.lt
                replace jb38 := jb38.keep hk187 (by show ¬ (b38 = g1 ∨ b38 = x1); omega)
                have hb38lt := jb38.lt
                replace jb40 := jb40.keep hk187 (by show ¬ (b40 = g1 ∨ b40 = x1); omega)
                have hb40lt := jb40.lt
                replace jb56 := jb56.keep hk187 (by show ¬ (b56 = g1 ∨ b56 = x1); omega)
                have hb56lt := jb56.lt
                replace jbg65 := jbg65.keep hk187 (by show ¬ (bg65 = g1 ∨ bg65 = x1); omega)
                have hbg65lt := jbg65.lt
                replace jbs66 := jbs66.keep hk187 (by show ¬ (bs66 = g1 ∨ bs66 = x1); omega)
                have hbs66lt := jbs66.lt
                replace jbn67 := jbn67.keep hk187 (by show ¬ (bn67 = g1 ∨ bn67 = x1); omega)
                have hbn67lt := jbn67.lt
                replace jb157 := jb157.keep hk187 (by show ¬ (b157 = g1 ∨ b157 = x1); omega)
                have hb157lt := jb157.lt
                replace hat169 := hat169.keep hk187 (by show ¬ (b169 = g1 ∨ b169 = x1); omega)
                have hb169lt := hat169.blk.lt
                replace hat183 := hat183.keep hk187 (by show ¬ (b183 = g1 ∨ b183 = x1); omega)
                have hb183lt := hat183.blk.lt
                replace jA := ArgT.keep jA hk187 hA0 (fun k hk hs => by have hs2 : k = g1 ∨ k = x1 := hs; omega)
                replace jB := ArgT.keep jB hk187 hB0 (fun k hk hs => by have hs2 : k = g1 ∨ k = x1 := hs; omega)
                replace jP54 := SlT.keep jP54 hk187 (fun q hq hs => by have hs2 : q = g1 ∨ q = x1 := hs; have g0 := owy164P54 q hq; have g1 := ltjP54 q hq; omega)
                replace jA164 := SlT.keep jA164 hk187 (fun q hq hs => by have hs2 : q = g1 ∨ q = x1 := hs; have g0 := owb164 q hq; have g1 := ltjA164 q hq; omega)
                replace jhK0 := Keep.fresh jhK0 hk187 (by intro i hi hs; first | exact hs | (exfalso; have hs2 : i = g1 ∨ i = x1 := hs; omega)); have hzjhK0 := Keep.size jhK0
                replace hfenb := Keep.fresh hfenb hk187 (by intro i hi hs; have hs2 : i = g1 ∨ i = x1 := hs; show _ ∨ _; omega); have hzhfenb := Keep.size hfenb
                have own197 : ∀ q, F188 q → w5.heap.size ≤ q ∧ (q < w159.heap.size ∨ M1 ≤ q) ∧ q ≠ b1 ∧ q ≠ b3 ∧ q ≠ b5 ∧ q ≠ b38 ∧ q ≠ b40 ∧ q ≠ b56 ∧ q ≠ bg65 ∧ q ≠ bs66 ∧ q ≠ bn67 ∧ q ≠ b157 := fun q hq => by rcases hfr190 q hq with h | h; (have h1 := ow1k q h; have h2 := lt165 q h; omega); omega
                have lt196 := Grd.lt ho189
                have own199 : ∀ q, F191 q → w5.heap.size ≤ q ∧ (q < w159.heap.size ∨ M1 ≤ q) ∧ q ≠ b1 ∧ q ≠ b3 ∧ q ≠ b5 ∧ q ≠ b38 ∧ q ≠ b40 ∧ q ≠ b56 ∧ q ≠ bg65 ∧ q ≠ bs66 ∧ q ≠ bn67 ∧ q ≠ b157 := fun q hq => by rcases hfr193 q hq with h | h; (have h1 := ow2k q h; have h2 := lt166 q h; omega); omega
                have lt198 := Rgd.lt ho192
                rw [mC_act hx185] at ho189 ho192
                refine GI_static [] [(8, .pointer (some ⟨b5, 0, none⟩)), (13, .pointer (some ⟨b157, 0, none⟩)), (112, .bool false)] (by kernel_rfl) ?_
                refine GI_end ?_
                refine X_then ?_
                refine V_false rfl ?_
                refine V_skip ?_
                refine X_then ?_
                refine V_region ?_
                refine OI_cell 3 (.tmp 13) 0 (.int .i64 ((k : Nat) : Int)) (some 113) (by kernel_rfl) (by kernel_rfl) jb157 (m := 1) (by kernel_rfl) rfl ?_
                have hw200 : IntKind.i64.wrap (((k : Nat) : Int) + 1) = ((k + 1 : Nat) : Int) := (wrap64_id (by omega) (by omega)).trans (by omega)
                refine OI_static 2 [(13, .pointer (some ⟨b157, 0, none⟩)), (114, .int .i64 (IntKind.i64.wrap (((k : Nat) : Int) + 1)))] (by kernel_rfl) ?_
                refine OI_eq [(13, .pointer (some ⟨b157, 0, none⟩)), (114, .int .i64 ((k + 1 : Nat) : Int))] (by rw [hw200]) ?_
                refine OI_set (m := 1) (kd := false) 3 (.tmp 13) (.tmp 114) 0 (.int .i64 ((k + 1 : Nat) : Int)) [.int .i64 ((k + 1 : Nat) : Int)] none (by kernel_rfl) (by kernel_rfl) (by kernel_rfl) jb157 (by kernel_rfl) (by kernel_rfl) (by kernel_rfl) (Nat.le_of_ble_eq_true (by kernel_rfl)) (by simp [Value.oneCell']) ?_
                intro w201 hb157_204 hk202 hz203
                replace hb157_204 : Blk w201 b157 [.int .i64 ((k + 1 : Nat) : Int)] 3 := hb157_204
                have hsz205 := Keep.size hk202
                replace jb1 := jb1.keep hk202 (by show ¬ (_ = _); omega)
                have hb1lt := jb1.lt
                replace jb3 := jb3.keep hk202 (by show ¬ (_ = _); omega)
                have hb3lt := jb3.lt
                replace jb5 := jb5.keep hk202 (by show ¬ (_ = _); omega)
                have hb5lt := jb5.lt
                replace jb38 := jb38.keep hk202 (by show ¬ (_ = _); omega)
                have hb38lt := jb38.lt
                replace jb40 := jb40.keep hk202 (by show ¬ (_ = _); omega)
                have hb40lt := jb40.lt
                replace jb56 := jb56.keep hk202 (by show ¬ (_ = _); omega)
                have hb56lt := jb56.lt
                replace jbg65 := jbg65.keep hk202 (by show ¬ (_ = _); omega)
                have hbg65lt := jbg65.lt
                replace jbs66 := jbs66.keep hk202 (by show ¬ (_ = _); omega)
                have hbs66lt := jbs66.lt
                replace jbn67 := jbn67.keep hk202 (by show ¬ (_ = _); omega)
                have hbn67lt := jbn67.lt
                replace hat169 := hat169.keep hk202 (by show ¬ (_ = _); omega)
                have hb169lt := hat169.blk.lt
                replace hat183 := hat183.keep hk202 (by show ¬ (_ = _); omega)
                have hb183lt := hat183.blk.lt
                replace jA := ArgT.keep jA hk202 hA0 (fun k hk hs => by have hs : k = b157 := hs; omega)
                replace jB := ArgT.keep jB hk202 hB0 (fun k hk hs => by have hs : k = b157 := hs; omega)
                replace jP54 := SlT.keep jP54 hk202 (fun q hq hs => by have hs : q = b157 := hs; have g0 := owy164P54 q hq; have g1 := ltjP54 q hq; omega)
                replace jA164 := SlT.keep jA164 hk202 (fun q hq hs => by have hs : q = b157 := hs; have g0 := owb164 q hq; have g1 := ltjA164 q hq; omega)
                replace jhK0 := Keep.fresh jhK0 hk202 (by intro i hi hs; first | exact hs | exact Or.inl hs | exact Or.inr hs | (exfalso; have hs2 : i = b157 := hs; omega)); have hzjhK0 := Keep.size jhK0
                replace hfenb := Keep.fresh hfenb hk202 (by intro i hi hs; have hs2 : i = b157 := hs; show _ ∨ _; omega); have hzhfenb := Keep.size hfenb
                replace ho189 := Grd.keep ho189 hk202 (fun q hq hs => by have hs : q = b157 := hs; have g0 := own197 q hq; have g1 := lt196 q hq; omega)
                replace ho192 := Rgd.keep ho192 hk202 (fun q hq hs => by have hs : q = b157 := hs; have g0 := own199 q hq; have g1 := lt198 q hq; omega)
                refine OI_end rfl ?_
                refine X_block ?_
                exact fun a _ => ⟨hfenb, F188, F191, jb1, jb3, jb5, jb38, jb40, jb56, jbg65, jbs66, jbn67, jA, jB, jP54, jA164, jhK0, hb157_204, (by exact ho189), (by exact ho192), (fun q hq => by have h1 := own197 q hq; have h2 := lt196 q hq; omega), (fun q hq => by have h1 := own199 q hq; have h2 := lt198 q hq; omega), hdis194⟩
              · skip
                refine GI_eq [(5, .pointer (some ⟨b1, 0, none⟩)), (8, .pointer (some ⟨b5, 0, none⟩)), (9, .pointer (some ⟨b38, 0, none⟩)), (10, .pointer (some ⟨b40, 0, none⟩)), (13, .pointer (some ⟨b157, 0, none⟩)), (103, .bool false)] (by first | simp [hg182] | rfl) ?_
                refine GI_static [] [(8, .pointer (some ⟨b5, 0, none⟩)), (13, .pointer (some ⟨b157, 0, none⟩)), (112, .bool false)] (by kernel_rfl) ?_
                refine GI_end ?_
                refine X_then ?_
                refine V_false rfl ?_
                refine V_skip ?_
                refine X_then ?_
                refine V_region ?_
                refine OI_cell 3 (.tmp 13) 0 (.int .i64 ((k : Nat) : Int)) (some 113) (by kernel_rfl) (by kernel_rfl) jb157 (m := 1) (by kernel_rfl) rfl ?_
                have hw206 : IntKind.i64.wrap (((k : Nat) : Int) + 1) = ((k + 1 : Nat) : Int) := (wrap64_id (by omega) (by omega)).trans (by omega)
                refine OI_static 2 [(13, .pointer (some ⟨b157, 0, none⟩)), (114, .int .i64 (IntKind.i64.wrap (((k : Nat) : Int) + 1)))] (by kernel_rfl) ?_
                refine OI_eq [(13, .pointer (some ⟨b157, 0, none⟩)), (114, .int .i64 ((k + 1 : Nat) : Int))] (by rw [hw206]) ?_
                refine OI_set (m := 1) (kd := false) 3 (.tmp 13) (.tmp 114) 0 (.int .i64 ((k + 1 : Nat) : Int)) [.int .i64 ((k + 1 : Nat) : Int)] none (by kernel_rfl) (by kernel_rfl) (by kernel_rfl) jb157 (by kernel_rfl) (by kernel_rfl) (by kernel_rfl) (Nat.le_of_ble_eq_true (by kernel_rfl)) (by simp [Value.oneCell']) ?_
                intro w207 hb157_210 hk208 hz209
                replace hb157_210 : Blk w207 b157 [.int .i64 ((k + 1 : Nat) : Int)] 3 := hb157_210
                have hsz211 := Keep.size hk208
                replace jb1 := jb1.keep hk208 (by show ¬ (_ = _); omega)
                have hb1lt := jb1.lt
                replace jb3 := jb3.keep hk208 (by show ¬ (_ = _); omega)
                have hb3lt := jb3.lt
                replace jb5 := jb5.keep hk208 (by show ¬ (_ = _); omega)
                have hb5lt := jb5.lt
                replace jb38 := jb38.keep hk208 (by show ¬ (_ = _); omega)
                have hb38lt := jb38.lt
                replace jb40 := jb40.keep hk208 (by show ¬ (_ = _); omega)
                have hb40lt := jb40.lt
                replace jb56 := jb56.keep hk208 (by show ¬ (_ = _); omega)
                have hb56lt := jb56.lt
                replace jbg65 := jbg65.keep hk208 (by show ¬ (_ = _); omega)
                have hbg65lt := jbg65.lt
                replace jbs66 := jbs66.keep hk208 (by show ¬ (_ = _); omega)
                have hbs66lt := jbs66.lt
                replace jbn67 := jbn67.keep hk208 (by show ¬ (_ = _); omega)
                have hbn67lt := jbn67.lt
                replace hat169 := hat169.keep hk208 (by show ¬ (_ = _); omega)
                have hb169lt := hat169.blk.lt
                replace jA := ArgT.keep jA hk208 hA0 (fun k hk hs => by have hs : k = b157 := hs; omega)
                replace jB := ArgT.keep jB hk208 hB0 (fun k hk hs => by have hs : k = b157 := hs; omega)
                replace jP54 := SlT.keep jP54 hk208 (fun q hq hs => by have hs : q = b157 := hs; have g0 := owy164P54 q hq; have g1 := ltjP54 q hq; omega)
                replace jA164 := SlT.keep jA164 hk208 (fun q hq hs => by have hs : q = b157 := hs; have g0 := owb164 q hq; have g1 := ltjA164 q hq; omega)
                replace jhK0 := Keep.fresh jhK0 hk208 (by intro i hi hs; first | exact hs | exact Or.inl hs | exact Or.inr hs | (exfalso; have hs2 : i = b157 := hs; omega)); have hzjhK0 := Keep.size jhK0
                replace jg1 := Grd.keep jg1 hk208 (fun q hq hs => by have hs : q = b157 := hs; have g0 := ow1k q hq; have g1 := lt165 q hq; omega)
                replace jx1 := Rgd.keep jx1 hk208 (fun q hq hs => by have hs : q = b157 := hs; have g0 := ow2k q hq; have g1 := lt166 q hq; omega)
                replace hfenb := Keep.fresh hfenb hk208 (by intro i hi hs; have hs2 : i = b157 := hs; show _ ∨ _; omega); have hzhfenb := Keep.size hfenb
                refine OI_end rfl ?_
                refine X_block ?_
                exact fun a _ => ⟨hfenb, F1k, F2k, jb1, jb3, jb5, jb38, jb40, jb56, jbg65, jbs66, jbn67, jA, jB, jP54, jA164, jhK0, hb157_210, (by rw [← mC_no (by omega)]; exact jg1), (by rw [← mC_no (by omega)]; exact jx1), (fun q hq => by have h1 := ow1k q hq; have h2 := lt165 q hq; omega), (fun q hq => by have h1 := ow2k q hq; have h2 := lt166 q hq; omega), hd12k⟩
            · skip
              intro D M1 W hD hM ⟨F1k, F2k, jb1, jb3, jb5, jb38, jb40, jb56, jbg65, jbs66, jbn67, jA, jB, jP54, jA164, jhK0, jb157, jg1, jx1, ow1k, ow2k, hd12k⟩ hDD
              have hzjhK0 := Keep.size jhK0
              have hb1lt := jb1.lt
              have hb3lt := jb3.lt
              have hb5lt := jb5.lt
              have hb38lt := jb38.lt
              have hb40lt := jb40.lt
              have hb56lt := jb56.lt
              have hbg65lt := jbg65.lt
              have hbs66lt := jbs66.lt
              have hbn67lt := jbn67.lt
              have hb157lt := jb157.lt
              have ltjP54 := SlT.lt jP54
              have ltjA164 := SlT.lt jA164
              have ltg9 := Grd.lt jg1
              have ltx9 := Rgd.lt jx1
              have hmcl := mC_len (bldC xs (min xs.length 100)) ms (rowL at_ (bldC xs (min xs.length 100))).length
              have hlen9 : (rowL at_ (bldC xs (min xs.length 100))).length = ((bldC xs (min xs.length 100)).filter (fun c : Ci => c.a == at_)).length := by rw [rowL_map, List.length_map]
              have hfl9 : ((bldC xs (min xs.length 100)).filter (fun c : Ci => c.a == at_)).length ≤ (bldC xs (min xs.length 100)).length := List.length_filter_le _ _
              have hg1lt := ltg9 _ (Grd.at_ jg1)
              have hx1lt := ltx9 _ (Rgd.at_ jx1)
              refine X_block ?_
              refine X_then ?_
              refine V_seq ?_
              refine V_region ?_
              refine OI_cell 22 (.tmp 9) 0 (.pointer (some ⟨g1, 0, none⟩)) (some 116) (by kernel_rfl) (by kernel_rfl) jb38 (m := 1) (by kernel_rfl) rfl ?_
              refine OI_call { callee := (Callee.value (Operand.func 23)), args := #[(Operand.tmp 116)], argTypes := #[22] } 23 #[.pointer (some ⟨g1, 0, none⟩)] (some 117) (by kernel_rfl) (by kernel_rfl) (by kernel_rfl) (cells_grd F1k g1 (mC (bldC xs (min xs.length 100)) ms (rowL at_ (bldC xs (min xs.length 100))).length) _ jg1 (by omega)) ?_
              rintro _ w212 ⟨K214, capK214, rfl, hAK214, hk213, owK214⟩
              refine ⟨_, rfl, ?_⟩
              have hsz215 := Keep.size hk213
              replace jb1 := jb1.keep hk213 (fun f => f)
              have hb1lt := jb1.lt
              replace jb3 := jb3.keep hk213 (fun f => f)
              have hb3lt := jb3.lt
              replace jb5 := jb5.keep hk213 (fun f => f)
              have hb5lt := jb5.lt
              replace jb38 := jb38.keep hk213 (fun f => f)
              have hb38lt := jb38.lt
              replace jb40 := jb40.keep hk213 (fun f => f)
              have hb40lt := jb40.lt
              replace jb56 := jb56.keep hk213 (fun f => f)
              have hb56lt := jb56.lt
              replace jbg65 := jbg65.keep hk213 (fun f => f)
              have hbg65lt := jbg65.lt
              replace jbs66 := jbs66.keep hk213 (fun f => f)
              have hbs66lt := jbs66.lt
              replace jbn67 := jbn67.keep hk213 (fun f => f)
              have hbn67lt := jbn67.lt
              replace jb157 := jb157.keep hk213 (fun f => f)
              have hb157lt := jb157.lt
              replace jA := ArgT.keep0 jA hk213
              replace jB := ArgT.keep0 jB hk213
              replace jP54 := SlT.keep0 jP54 hk213
              replace jA164 := SlT.keep0 jA164 hk213
              replace jhK0 := Keep.tr jhK0 (Keep.ofNone hk213); have hzjhK0 := Keep.size jhK0
              replace hDD := (Keep.block hk213 _ (Array.getElem?_eq_some_iff.1 hDD).1 (fun f => f)).trans hDD
              replace jg1 := Grd.keep jg1 hk213 (fun _ _ f => f)
              replace jx1 := Rgd.keep jx1 hk213 (fun _ _ f => f)
              have ltK214 := SlT.lt hAK214
              have hcp216 := jx1
              obtain ⟨_, hlen216, hFg216, hFlt216, R216, cap216, hat216, hAF216⟩ := hcp216
              have hg216 := hat216.blk
              have hA216 := hat216.sl
              have ltR216 := SlT.lt hA216
              have owR216 : ∀ q, inA R216 q → 0 ≤ q ∧ q ≠ b1 ∧ q ≠ b3 ∧ q ≠ b5 ∧ q ≠ b38 ∧ q ≠ b40 ∧ q ≠ b56 ∧ q ≠ bg65 ∧ q ≠ bs66 ∧ q ≠ bn67 ∧ q ≠ b157 := fun q hq => by have h1 := ow2k q (hAF216 q hq); have h2 := ltx9 q (hAF216 q hq); omega
              refine OI_static 7 [(8, .pointer (some ⟨b5, 0, none⟩)), (10, .pointer (some ⟨b40, 0, none⟩)), (11, .pointer (some ⟨b56, 0, none⟩)), (13, .pointer (some ⟨b157, 0, none⟩)), (16, .slice K214 ((mC (bldC xs (min xs.length 100)) ms (rowL at_ (bldC xs (min xs.length 100))).length).length) capK214), (17, .bool true)] (by kernel_rfl) ?_
              refine OI_end rfl ?_
              refine X_then ?_
              refine V_seq ?_
              refine V_region ?_
              refine OI_cell 3 (.tmp 13) 0 (.int .i64 (((rowL at_ (bldC xs (min xs.length 100))).length : Nat) : Int)) (some 120) (by kernel_rfl) (by kernel_rfl) jb157 (m := 1) (by kernel_rfl) rfl ?_
              refine OI_cell 47 (.tmp 11) 0 (.slice P54 (((bldC xs (min xs.length 100)).filter (fun c : Ci => c.a == at_)).length) capP54) (some 121) (by kernel_rfl) (by kernel_rfl) jb56 (m := 1) (by kernel_rfl) rfl ?_
              refine OI_static 5 [(8, .pointer (some ⟨b5, 0, none⟩)), (10, .pointer (some ⟨b40, 0, none⟩)), (16, .slice K214 ((mC (bldC xs (min xs.length 100)) ms (rowL at_ (bldC xs (min xs.length 100))).length).length) capK214), (17, .bool true), (124, .bool (decide ((((rowL at_ (bldC xs (min xs.length 100))).length : Nat) : Int) = ((((bldC xs (min xs.length 100)).filter (fun c : Ci => c.a == at_)).length : Nat) : Int))))] (by kernel_rfl) ?_
              refine OI_eq [(8, .pointer (some ⟨b5, 0, none⟩)), (10, .pointer (some ⟨b40, 0, none⟩)), (16, .slice K214 ((mC (bldC xs (min xs.length 100)) ms (rowL at_ (bldC xs (min xs.length 100))).length).length) capK214), (17, .bool true), (124, .bool true)] (by rw [decide_eq_true (by omega : (((rowL at_ (bldC xs (min xs.length 100))).length : Nat) : Int) = ((((bldC xs (min xs.length 100)).filter (fun c : Ci => c.a == at_)).length : Nat) : Int))]) ?_
              refine OI_static 9 [(8, .pointer (some ⟨b5, 0, none⟩)), (10, .pointer (some ⟨b40, 0, none⟩)), (127, .bool true), (128, .slice K214 ((mC (bldC xs (min xs.length 100)) ms (rowL at_ (bldC xs (min xs.length 100))).length).length) capK214)] (by kernel_rfl) ?_
              refine OI_cell 46 (.tmp 10) 0 (.pointer (some ⟨x1, 0, none⟩)) (some 129) (by kernel_rfl) (by kernel_rfl) jb40 (m := 1) (by kernel_rfl) rfl ?_
              refine OI_static 12 [(8, .pointer (some ⟨b5, 0, none⟩)), (127, .bool true), (128, .slice K214 ((mC (bldC xs (min xs.length 100)) ms (rowL at_ (bldC xs (min xs.length 100))).length).length) capK214), (131, .pointer (some ⟨x1, 0, none⟩))] (by kernel_rfl) ?_
              refine OI_cell 47 (.tmp 131) 0 (.slice R216 ((mC (bldC xs (min xs.length 100)) ms (rowL at_ (bldC xs (min xs.length 100))).length).length) cap216) (some 132) (by kernel_rfl) (by kernel_rfl) hg216 (m := 1) (by kernel_rfl) rfl ?_
              refine OI_call { callee := (Callee.value (Operand.func 24)), args := #[(Operand.tmp 128), (Operand.tmp 132)], argTypes := #[47, 47] } 24 #[.slice K214 ((mC (bldC xs (min xs.length 100)) ms (rowL at_ (bldC xs (min xs.length 100))).length).length) capK214, .slice R216 ((mC (bldC xs (min xs.length 100)) ms (rowL at_ (bldC xs (min xs.length 100))).length).length) cap216] (some 133) (by kernel_rfl) (by kernel_rfl) (by kernel_rfl) (same_spec K214 R216 capK214 cap216 (mC (bldC xs (min xs.length 100)) ms (rowL at_ (bldC xs (min xs.length 100))).length) _ hAK214 hA216 (by omega)) ?_
              rintro _ w218 ⟨rfl, hk219⟩
              refine ⟨_, rfl, ?_⟩
              have hsz220 := Keep.size hk219
              replace jb1 := jb1.keep hk219 (fun f => f)
              have hb1lt := jb1.lt
              replace jb3 := jb3.keep hk219 (fun f => f)
              have hb3lt := jb3.lt
              replace jb5 := jb5.keep hk219 (fun f => f)
              have hb5lt := jb5.lt
              replace jb38 := jb38.keep hk219 (fun f => f)
              have hb38lt := jb38.lt
              replace jb40 := jb40.keep hk219 (fun f => f)
              have hb40lt := jb40.lt
              replace jb56 := jb56.keep hk219 (fun f => f)
              have hb56lt := jb56.lt
              replace jbg65 := jbg65.keep hk219 (fun f => f)
              have hbg65lt := jbg65.lt
              replace jbs66 := jbs66.keep hk219 (fun f => f)
              have hbs66lt := jbs66.lt
              replace jbn67 := jbn67.keep hk219 (fun f => f)
              have hbn67lt := jbn67.lt
              replace jb157 := jb157.keep hk219 (fun f => f)
              have hb157lt := jb157.lt
              replace hg216 := hg216.keep hk219 (fun f => f)
              have hx1lt := hg216.lt
              replace jA := ArgT.keep0 jA hk219
              replace jB := ArgT.keep0 jB hk219
              replace jP54 := SlT.keep0 jP54 hk219
              replace jA164 := SlT.keep0 jA164 hk219
              replace hAK214 := SlT.keep0 hAK214 hk219
              replace hA216 := SlT.keep0 hA216 hk219
              replace jhK0 := Keep.tr jhK0 (Keep.ofNone hk219); have hzjhK0 := Keep.size jhK0
              replace hDD := (Keep.block hk219 _ (Array.getElem?_eq_some_iff.1 hDD).1 (fun f => f)).trans hDD
              replace jg1 := Grd.keep jg1 hk219 (fun _ _ f => f)
              replace jx1 := Rgd.keep jx1 hk219 (fun _ _ f => f)
              refine OI_static 16 [(8, .pointer (some ⟨b5, 0, none⟩)), (135, .bool true)] (by kernel_rfl) ?_
              refine OI_call { callee := (Callee.value (Operand.func 14)), args := #[], argTypes := #[] } 14 #[] (some 136) (by kernel_rfl) (by kernel_rfl) (by kernel_rfl) (known_spec _) ?_
              rintro _ w221 ⟨rfl, hk222⟩
              refine ⟨_, rfl, ?_⟩
              have hsz223 := Keep.size hk222
              replace jb1 := jb1.keep hk222 (fun f => f)
              have hb1lt := jb1.lt
              replace jb3 := jb3.keep hk222 (fun f => f)
              have hb3lt := jb3.lt
              replace jb5 := jb5.keep hk222 (fun f => f)
              have hb5lt := jb5.lt
              replace jb38 := jb38.keep hk222 (fun f => f)
              have hb38lt := jb38.lt
              replace jb40 := jb40.keep hk222 (fun f => f)
              have hb40lt := jb40.lt
              replace jb56 := jb56.keep hk222 (fun f => f)
              have hb56lt := jb56.lt
              replace jbg65 := jbg65.keep hk222 (fun f => f)
              have hbg65lt := jbg65.lt
              replace jbs66 := jbs66.keep hk222 (fun f => f)
              have hbs66lt := jbs66.lt
              replace jbn67 := jbn67.keep hk222 (fun f => f)
              have hbn67lt := jbn67.lt
              replace jb157 := jb157.keep hk222 (fun f => f)
              have hb157lt := jb157.lt
              replace hg216 := hg216.keep hk222 (fun f => f)
              have hx1lt := hg216.lt
              replace jA := ArgT.keep0 jA hk222
              replace jB := ArgT.keep0 jB hk222
              replace jP54 := SlT.keep0 jP54 hk222
              replace jA164 := SlT.keep0 jA164 hk222
              replace hAK214 := SlT.keep0 hAK214 hk222
              replace hA216 := SlT.keep0 hA216 hk222
              replace jhK0 := Keep.tr jhK0 (Keep.ofNone hk222); have hzjhK0 := Keep.size jhK0
              replace hDD := (Keep.block hk222 _ (Array.getElem?_eq_some_iff.1 hDD).1 (fun f => f)).trans hDD
              replace jg1 := Grd.keep jg1 hk222 (fun _ _ f => f)
              replace jx1 := Rgd.keep jx1 hk222 (fun _ _ f => f)
              refine OI_static 18 [(8, .pointer (some ⟨b5, 0, none⟩)), (137, .bool true)] (by kernel_rfl) ?_
              refine OI_set (m := 1) (kd := false) 4 (.tmp 8) (.tmp 137) 0 (.bool true) [.bool true] none (by kernel_rfl) (by kernel_rfl) (by kernel_rfl) jb5 (by kernel_rfl) (by kernel_rfl) (by kernel_rfl) (Nat.le_of_ble_eq_true (by kernel_rfl)) (by simp [Value.oneCell']) ?_
              intro w224 hb5_227 hk225 hz226
              replace hb5_227 : Blk w224 b5 [.bool true] 4 := hb5_227
              have hsz228 := Keep.size hk225
              replace jb1 := jb1.keep hk225 (by show ¬ (_ = _); omega)
              have hb1lt := jb1.lt
              replace jb3 := jb3.keep hk225 (by show ¬ (_ = _); omega)
              have hb3lt := jb3.lt
              replace jb38 := jb38.keep hk225 (by show ¬ (_ = _); omega)
              have hb38lt := jb38.lt
              replace jb40 := jb40.keep hk225 (by show ¬ (_ = _); omega)
              have hb40lt := jb40.lt
              replace jb56 := jb56.keep hk225 (by show ¬ (_ = _); omega)
              have hb56lt := jb56.lt
              replace jbg65 := jbg65.keep hk225 (by show ¬ (_ = _); omega)
              have hbg65lt := jbg65.lt
              replace jbs66 := jbs66.keep hk225 (by show ¬ (_ = _); omega)
              have hbs66lt := jbs66.lt
              replace jbn67 := jbn67.keep hk225 (by show ¬ (_ = _); omega)
              have hbn67lt := jbn67.lt
              replace jb157 := jb157.keep hk225 (by show ¬ (_ = _); omega)
              have hb157lt := jb157.lt
              replace hg216 := hg216.keep hk225 (by show ¬ (_ = _); omega)
              have hx1lt := hg216.lt
              replace jA := ArgT.keep jA hk225 hA0 (fun k hk hs => by have hs : k = b5 := hs; omega)
              replace jB := ArgT.keep jB hk225 hB0 (fun k hk hs => by have hs : k = b5 := hs; omega)
              replace jP54 := SlT.keep jP54 hk225 (fun q hq hs => by have hs : q = b5 := hs; have g0 := owy164P54 q hq; have g1 := ltjP54 q hq; omega)
              replace jA164 := SlT.keep jA164 hk225 (fun q hq hs => by have hs : q = b5 := hs; have g0 := owb164 q hq; have g1 := ltjA164 q hq; omega)
              replace hAK214 := SlT.keep hAK214 hk225 (fun q hq hs => by have hs : q = b5 := hs; have g0 := owK214 q hq; have g1 := ltK214 q hq; omega)
              replace hA216 := SlT.keep hA216 hk225 (fun q hq hs => by have hs : q = b5 := hs; have g0 := owR216 q hq; have g1 := ltR216 q hq; omega)
              replace jhK0 := Keep.fresh jhK0 hk225 (by intro i hi hs; first | exact hs | exact Or.inl hs | exact Or.inr hs | (exfalso; have hs2 : i = b5 := hs; omega)); have hzjhK0 := Keep.size jhK0
              replace hDD := (Keep.block hk225 _ (Array.getElem?_eq_some_iff.1 hDD).1 (by show ¬ (_ = _); omega)).trans hDD
              replace jg1 := Grd.keep jg1 hk225 (fun q hq hs => by have hs : q = b5 := hs; have g0 := ow1k q hq; have g1 := ltg9 q hq; omega)
              replace jx1 := Rgd.keep jx1 hk225 (fun q hq hs => by have hs : q = b5 := hs; have g0 := ow2k q hq; have g1 := ltx9 q hq; omega)
              refine OI_end rfl ?_
              refine X_then ?_
              refine V_ret ?_
              exact leave1 (.bool true) (.inl rfl) hDD (fun w' hk => ⟨res_cell1 (n1 := 1) rfl rfl (by kernel_rfl) (Blk.quiet hb5_227 hk) , ⟨rfl, Keep.quiet jhK0 hk (by omega)⟩⟩)

theorem over_GridMeanwhile {H : Type} {enc : TypeId × Value → H} {A B : Option Addr} {len cap lenb capb : Nat} {d db : DataW H} {ps pb : List MemPlace} {w : World} (h : DataW.Trod enc Try.prog w 0 (fun _ => true) true 40 (.slice A len cap) d ps) (hb : DataW.Trod enc Try.prog w 0 (fun _ => true) true 40 (.slice B lenb capb) db pb) (way a : Int) : Calls Try.prog 8 #[.slice A len cap, .slice B lenb capb, .int .i64 way, .int .i64 a] w fun e w' => e = .returned (.bool true) ∧ Keep none_ w w' := by
  obtain ⟨xs, rfl, hA, hl, hc⟩ := read_elems (f := Ac4.cells) (ks := [.int .i64, .int .i64, .int .i64, .int .i64]) (n := 4) (sz := 4) lift_Ac4 Try.underlying40 (by kernel_rfl) (by kernel_rfl) rfl (by decide) h
  obtain ⟨ms, rfl, hB, hlb, hcb⟩ := read_elems (f := Ac4.cells) (ks := [.int .i64, .int .i64, .int .i64, .int .i64]) (n := 4) (sz := 4) lift_Ac4 Try.underlying40 (by kernel_rfl) (by kernel_rfl) rfl (by decide) hb
  exact walk_GridMeanwhile A B cap capb xs ms way a w hA hB (by unfold maxLen at hc; omega) (by unfold maxLen at hcb; omega)
end Go.Al
