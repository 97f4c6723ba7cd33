/-
  Walks of package grid: Set.
-/
import Derived.Test.YtijhhcnahepdlaaGr3
namespace Go.Al
open Go Go.RowKit Go.Proofs
theorem setC_mem {a b v : Int} {y : Ci} : ∀ {cs : List Ci}, y ∈ setC a b v cs → (y.a = a ∧ y.b = b) ∨ y ∈ cs
  | [], h => by simp only [setC, List.mem_singleton] at h; subst h; exact .inl ⟨rfl, rfl⟩
  | x :: l, h => by
    simp only [setC] at h
    split at h
    · rcases List.mem_cons.1 h with rfl | h
      · exact .inl ⟨rfl, rfl⟩
      · exact .inr (List.mem_cons_of_mem _ h)
    · split at h
      · rcases List.mem_cons.1 h with rfl | h
        · exact .inr (List.mem_cons_self ..)
        · exact (setC_mem h).imp id (List.mem_cons_of_mem _)
      · rcases List.mem_cons.1 h with rfl | h
        · exact .inl ⟨rfl, rfl⟩
        · exact .inr h
theorem Srt.set {a b v : Int} : ∀ {cs : List Ci}, Srt cs → Srt (setC a b v cs) ∧ (setC a b v cs).length ≤ cs.length + 1
  | [], _ => ⟨by simp [setC, Srt], by simp [setC]⟩
  | x :: l, h => by
    have h := List.pairwise_cons.1 h
    simp only [setC]
    split
    · rename_i he
      exact ⟨List.pairwise_cons.2 ⟨fun y hy => by have := h.1 y hy; rw [he.1, he.2] at this; exact this, h.2⟩, by simp⟩
    · rename_i he
      split
      · rename_i hlt
        obtain ⟨h1, h2⟩ := Srt.set (a := a) (b := b) (v := v) h.2
        refine ⟨List.pairwise_cons.2 ⟨fun y hy => ?_, h1⟩, by simpa using h2⟩
        rcases setC_mem hy with ⟨e1, e2⟩ | hy
        · rw [e1, e2]; exact hlt
        · exact h.1 y hy
      · rename_i hnl
        have hgt : ltC a b x.a x.b := by unfold ltC at *; omega
        refine ⟨List.pairwise_cons.2 ⟨fun y hy => ?_, List.pairwise_cons.2 h⟩, by simp⟩
        rcases List.mem_cons.1 hy with rfl | hy
        · exact hgt
        · exact ltC_trans hgt (h.1 y hy)

theorem set_spec (D : Nat → Prop) (g : Nat) (cs : List Ci) (a b v : Int) (w : World) (h : Gr D w g cs) (hD : ∀ k, w.heap.size ≤ k → D k) (hmax : cs.length < 100000) : Calls Try.prog 11 #[.pointer (some ⟨g, 0, none⟩), .int .i64 a, .int .i64 b, .int .i64 v] w fun e w' => e = .returned (.tuple #[]) ∧ Gr D w' g (setC a b v cs) ∧ Keep (only g) w w' := by
  obtain ⟨hs, hlen, A, cap, h, hDA⟩ := h
  have hgA := h.off
  have hg := h.blk
  have hA := h.sl
  have hglt := hg.lt
  have hltA := SlT.lt hA
  have hK0 : Keep (only g) w w := Keep.refl _ _
  have hzhK0 := Keep.size hK0
  refine enterV Try.func11 rfl [.pointer (some ⟨g, 0, none⟩), .int .i64 a, .int .i64 b, .int .i64 v] 44 rfl rfl rfl ?_
  refine V_pick [(0, .pointer (some ⟨g, 0, none⟩)), (1, .int .i64 a), (2, .int .i64 b), (3, .int .i64 v)] rfl ?_
  refine V_seq ?_
  refine V_seq ?_
  refine V_region ?_
  refine OI_static 2 [(0, .pointer (some ⟨g, 0, none⟩)), (1, .int .i64 a), (2, .int .i64 b), (3, .int .i64 v), (12, .bool false)] (by kernel_rfl) ?_
  refine OI_end rfl ?_
  refine X_then ?_
  refine V_false rfl ?_
  refine V_skip ?_
  refine X_then ?_
  refine V_seq ?_
  refine V_region ?_
  refine OI_static 3 [(0, .pointer (some ⟨g, 0, none⟩)), (1, .int .i64 a), (2, .int .i64 b), (3, .int .i64 v), (14, .pointer (some ⟨g, 0, none⟩)), (15, .int .i64 a), (16, .int .i64 b)] (by kernel_rfl) ?_
  refine OI_call { callee := (Callee.value (Operand.func 29)), args := #[(Operand.tmp 14), (Operand.tmp 15), (Operand.tmp 16)], argTypes := #[22, 3, 3] } 29 #[.pointer (some ⟨g, 0, none⟩), .int .i64 a, .int .i64 b] (some 17) (by kernel_rfl) (by kernel_rfl) (by kernel_rfl) (place_spec g cap A cs a b _ ⟨hg, hA, hgA⟩ hs hlen) ?_
  rintro _ w5 ⟨i, bb, rfl, hk6, hi, hbef, haft, hbb⟩
  refine ⟨_, rfl, ?_⟩
  have hsz7 := Keep.size hk6
  replace hg := hg.keep hk6 (fun f => f)
  have hglt := hg.lt
  replace hA := SlT.keep0 hA hk6
  replace hK0 := Keep.tr hK0 (Keep.ofNone hk6); have hzhK0 := Keep.size hK0
  refine OI_static 9 [(0, .pointer (some ⟨g, 0, none⟩)), (1, .int .i64 a), (2, .int .i64 b), (3, .int .i64 v), (8, .int .i64 ((i : Nat) : Int)), (9, .bool bb)] (by kernel_rfl) ?_
  refine OI_end rfl ?_
  refine X_then ?_
  refine V_seq ?_
  refine V_region ?_
  refine OI_static 3 [(0, .pointer (some ⟨g, 0, none⟩)), (1, .int .i64 a), (2, .int .i64 b), (3, .int .i64 v), (8, .int .i64 ((i : Nat) : Int)), (9, .bool bb), (22, .pointer (some ⟨g, 0, none⟩))] (by kernel_rfl) ?_
  refine OI_cell 64 (.tmp 22) 0 (.slice A cs.length cap) (some 23) (by kernel_rfl) (by kernel_rfl) hg (m := 1) (by kernel_rfl) rfl ?_
  refine OI_call { callee := (Callee.value (Operand.func 30)), args := #[(Operand.tmp 23)], argTypes := #[64] } 30 #[.slice A cs.length cap] (some 24) (by kernel_rfl) (by kernel_rfl) (by kernel_rfl) (clone_spec A cap cs _ hA (by omega)) ?_
  rintro _ w10 ⟨A9, cap9, rfl, h9, hk11, hown9⟩
  refine ⟨_, rfl, ?_⟩
  have hsz12 := Keep.size hk11
  replace hg := hg.keep hk11 (fun f => f)
  have hglt := hg.lt
  replace hA := SlT.keep0 hA hk11
  replace hK0 := Keep.tr hK0 (Keep.ofNone hk11); have hzhK0 := Keep.size hK0
  have hlt9 := SlT.lt h9
  refine OI_static 6 [(0, .pointer (some ⟨g, 0, none⟩)), (1, .int .i64 a), (2, .int .i64 b), (3, .int .i64 v), (8, .int .i64 ((i : Nat) : Int)), (9, .bool bb), (10, .slice A9 cs.length cap9)] (by kernel_rfl) ?_
  refine OI_end rfl ?_
  refine X_then ?_
  refine V_seq ?_
  refine V_seq ?_
  refine V_region ?_
  refine OI_static 1 [(0, .pointer (some ⟨g, 0, none⟩)), (1, .int .i64 a), (2, .int .i64 b), (3, .int .i64 v), (8, .int .i64 ((i : Nat) : Int)), (10, .slice A9 cs.length cap9), (25, .bool bb)] (by kernel_rfl) ?_
  refine OI_end rfl ?_
  refine X_then ?_
  refine V_ifb (bb) (by kernel_rfl) (fun hc13 => ?_) (fun hc13 => ?_)
  · skip
    rcases place_at cs i hs hi hbef haft with ⟨y, g1, g2, g3, g4, g5, g6, g7⟩ | ⟨g1, _⟩
    rotate_left
    · exact absurd hc13 (by rw [hbb]; split <;> simp_all)
    have hilt := (List.getElem?_eq_some_iff.1 g1).1
    refine V_region ?_
    refine OI_static 3 [(0, .pointer (some ⟨g, 0, none⟩)), (10, .slice A9 cs.length cap9), (26, .slice A9 cs.length cap9), (27, .int .i64 ((i : Nat) : Int)), (28, .int .i64 v)] (by kernel_rfl) ?_
    obtain ⟨b14, o14, L14, T14, rfl, hat14⟩ := SlT.open_ h9 (by first | omega | (simp only [List.length_map]; omega) | (simp; done) | (simp; omega))
    have hb14lt := hat14.blk.lt
    refine OI_pure (some 29) (.indexAddr 64 (.tmp 26) (.tmp 27)) (by kernel_rfl) (pure_idxN (b := b14) (o := o14) (len := cs.length) (cap := cap9) (kd := .i64) (j := i) (E := 70) (sz := 3) (by_ := 24) (by kernel_rfl) (by kernel_rfl) (by kernel_rfl) (by omega)) ?_
    refine OI_static 5 [(0, .pointer (some ⟨g, 0, none⟩)), (10, .slice (some ⟨b14, o14, none⟩) cs.length cap9), (28, .int .i64 v), (30, .pointer (some ⟨b14, o14 + i * 3 + 2, none⟩))] (by kernel_rfl) ?_
    refine OI_set (m := 1) (kd := false) 3 (.tmp 30) (.tmp 28) (o14 + i * 3 + 2) (.int .i64 v) [.int .i64 v] none (by kernel_rfl) (by kernel_rfl) (by kernel_rfl) (At.blk hat14) (by kernel_rfl) (by kernel_rfl) rfl (by have h1 := At.room hat14; have h2 := At.le hat14; rw [List.length_map] at h2; omega) (by simp [Value.oneCell']) ?_
    intro w8 hn8 hk8 hz8
    have hat8 := At.set (y := (⟨a, b, v⟩ : Ci)) (k := 2) hat14 g1 (by omega) (by simp [Ci.cells, over, g3, g4]) hn8
    have hbge := hown9 b14 ⟨_, rfl, rfl⟩
    have hsz15 := Keep.size hk8
    replace hg := hg.keep hk8 (by show ¬ (_ = _); omega)
    have hglt := hg.lt
    replace hA := SlT.keep hA hk8 (fun k hk hs => by have hs : k = b14 := hs; have h2 := hltA _ hk; omega)
    replace hK0 := Keep.fresh hK0 hk8 (by intro i hi hs; first | exact hs | exact Or.inl hs | exact Or.inr hs | (exfalso; have hs2 : i = b14 := hs; omega)); have hzhK0 := Keep.size hK0
    refine OI_end rfl ?_
    refine X_then ?_
    refine V_region ?_
    refine OI_static 4 [(41, .slice (some ⟨b14, o14, none⟩) cs.length cap9), (43, .pointer (some ⟨g, 0, none⟩))] (by kernel_rfl) ?_
    refine OI_set (m := 1) (kd := false) 64 (.tmp 43) (.tmp 41) 0 (.slice (some ⟨b14, o14, none⟩) cs.length cap9) [.slice (some ⟨b14, o14, none⟩) cs.length cap9] none (by kernel_rfl) (by kernel_rfl) (by kernel_rfl) hg (by kernel_rfl) (by kernel_rfl) (by kernel_rfl) (Nat.le_of_ble_eq_true (by kernel_rfl)) (by simp [Value.oneCell']) ?_
    intro w16 hg_19 hk17 hz18
    replace hg_19 : Blk w16 g [.slice (some ⟨b14, o14, none⟩) cs.length cap9] 66 := hg_19
    have hsz20 := Keep.size hk17
    replace hat8 := hat8.keep hk17 (by show ¬ (_ = _); omega)
    have hb14lt := hat8.blk.lt
    replace hA := SlT.keep hA hk17 (fun k hk hs => by have hs : k = g := hs; subst hs; exact hgA hk)
    replace hK0 := Keep.fresh hK0 hk17 (by intro i hi hs; first | exact hs | exact Or.inl hs | exact Or.inr hs | (exfalso; have hs2 : i = g := hs; omega)); have hzhK0 := Keep.size hK0
    refine OI_end rfl ?_
    obtain ⟨hs1, hs2⟩ := Srt.set (a := a) (b := b) (v := v) hs
    have hl : (setC a b v cs).length = cs.length := by rw [← g6 v]; simp
    exact X_end _ rfl ⟨rfl, ⟨hs1, by omega, _, cap9, ⟨by rw [hl]; exact hg_19, by rw [← g6 v]; exact At.slt hat8, fun h => by have := inA_some h; omega⟩, fun k hk => hD k (by have := inA_some hk; omega)⟩, hK0⟩
  · skip
    rcases place_at cs i hs hi hbef haft with ⟨y, g1, g2, _⟩ | ⟨g1, g2, g3, g4⟩
    · exact absurd hc13 (by rw [hbb, g1]; simp [g2])
    refine V_region ?_
    refine OI_static 7 [(0, .pointer (some ⟨g, 0, none⟩)), (31, .slice A9 cs.length cap9), (32, .int .i64 ((i : Nat) : Int)), (37, .agg #[.int .i64 a, .int .i64 b, .int .i64 v])] (by kernel_rfl) ?_
    refine OI_slit (E := 70) (zv := .agg #[.int .i64 0, .int .i64 0, .int .i64 0]) (sz := 3) (by_ := 24) 64 1 #[(0, (Operand.tmp 37))] [.agg #[.int .i64 a, .int .i64 b, .int .i64 v]] [.int .i64 a, .int .i64 b, .int .i64 v] (some 38) (by kernel_rfl) (by kernel_rfl) (by kernel_rfl) (by omega) rfl (by omega) (by intro v hv; simp only [List.mem_cons, List.not_mem_nil, or_false] at hv; rcases hv with rfl <;> rfl) (by kernel_rfl) rfl ?_
    intro b21 w21 e21 hb21 k21 z21
    have hsz22 := Keep.size k21
    replace hg := hg.keep k21 (fun f => f)
    have hglt := hg.lt
    replace hA := SlT.keep0 hA k21
    replace h9 := SlT.keep0 h9 k21
    replace hK0 := Keep.tr hK0 (Keep.ofNone k21); have hzhK0 := Keep.size hK0
    have hb21lt := hb21.lt
    have hne9 : ¬ inA A9 b21 := fun hs => by have h1 := hlt9 _ hs; have h2 := hown9 _ hs; omega
    refine OI_call { callee := (Callee.value (Operand.func 31)), args := #[(Operand.tmp 31), (Operand.tmp 32), (Operand.tmp 38)], argTypes := #[64, 3, 64] } 31 #[.slice A9 cs.length cap9, .int .i64 ((i : Nat) : Int), .slice (some ⟨b21, 0, none⟩) 1 1] (some 39) (by kernel_rfl) (by kernel_rfl) (by kernel_rfl) (insert_spec A9 cap9 b21 i cs ⟨a, b, v⟩ _ h9 hb21 hne9 hi (by omega)) ?_
    rintro _ w23 ⟨A10, cap10, rfl, h10, hk24, hown10⟩
    refine ⟨_, rfl, ?_⟩
    have hsz25 := Keep.size hk24
    replace hg := hg.keep hk24 (fun hs => by have h1 := hlt9 _ hs; have h2 := hown9 _ hs; omega)
    have hglt := hg.lt
    replace hb21 := hb21.keep hk24 (fun hs => by have h1 := hlt9 _ hs; have h2 := hown9 _ hs; omega)
    have hb21lt := hb21.lt
    replace hA := SlT.keep hA hk24 (fun k hk hs => by have h1 := hltA k hk; have h2 := hown9 _ hs; omega)
    replace hK0 := Keep.fresh hK0 hk24 (by intro i hi hs; exfalso; have h2 := hown9 i hs; omega); have hzhK0 := Keep.size hK0
    have hgA10 : ¬ inA A10 g := fun hs => by rcases hown10 _ hs with h | h; (have h2 := hown9 _ h; omega); omega
    refine OI_static 10 [(0, .pointer (some ⟨g, 0, none⟩)), (10, .slice A10 (cs.length + 1) cap10)] (by kernel_rfl) ?_
    refine OI_end rfl ?_
    refine X_then ?_
    refine V_region ?_
    refine OI_static 4 [(41, .slice A10 (cs.length + 1) cap10), (43, .pointer (some ⟨g, 0, none⟩))] (by kernel_rfl) ?_
    refine OI_set (m := 1) (kd := false) 64 (.tmp 43) (.tmp 41) 0 (.slice A10 (cs.length + 1) cap10) [.slice A10 (cs.length + 1) cap10] none (by kernel_rfl) (by kernel_rfl) (by kernel_rfl) hg (by kernel_rfl) (by kernel_rfl) (by kernel_rfl) (Nat.le_of_ble_eq_true (by kernel_rfl)) (by simp [Value.oneCell']) ?_
    intro w26 hg_29 hk27 hz28
    replace hg_29 : Blk w26 g [.slice A10 (cs.length + 1) cap10] 66 := hg_29
    have hsz30 := Keep.size hk27
    replace hb21 := hb21.keep hk27 (by show ¬ (_ = _); omega)
    have hb21lt := hb21.lt
    replace hA := SlT.keep hA hk27 (fun k hk hs => by have hs : k = g := hs; subst hs; exact hgA hk)
    replace h10 := SlT.keep h10 hk27 (fun k hk hs => by have hs : k = g := hs; subst hs; exact hgA10 hk)
    replace hK0 := Keep.fresh hK0 hk27 (by intro i hi hs; first | exact hs | exact Or.inl hs | exact Or.inr hs | (exfalso; have hs2 : i = g := hs; omega)); have hzhK0 := Keep.size hK0
    refine OI_end rfl ?_
    obtain ⟨hs1, hs2⟩ := Srt.set (a := a) (b := b) (v := v) hs
    rw [g3 v] at h10
    have hl : (setC a b v cs).length = cs.length + 1 := by rw [← g3 v]; simp; omega
    exact X_end _ rfl ⟨rfl, ⟨hs1, by omega, A10, cap10, ⟨by rw [hl]; exact hg_29, h10, hgA10⟩, fun k hk => hD k (by rcases hown10 _ hk with h | h; (have h2 := hown9 _ h; omega); omega)⟩, hK0⟩

theorem set_nil (a b v : Int) (w : World) : Calls Try.prog 11 #[.pointer none, .int .i64 a, .int .i64 b, .int .i64 v] w fun e w' => e = .returned (.tuple #[]) ∧ Keep none_ w w' := by
  have hK0 : Keep none_ w w := Keep.refl _ _
  have hzhK0 := Keep.size hK0
  refine enterV Try.func11 rfl [.pointer none, .int .i64 a, .int .i64 b, .int .i64 v] 44 rfl rfl rfl ?_
  refine V_pick [(0, .pointer none), (1, .int .i64 a), (2, .int .i64 b), (3, .int .i64 v)] rfl ?_
  refine V_seq ?_
  refine V_seq ?_
  refine V_region ?_
  refine OI_static 2 [(0, .pointer none), (1, .int .i64 a), (2, .int .i64 b), (3, .int .i64 v), (12, .bool true)] (by kernel_rfl) ?_
  refine OI_end rfl ?_
  refine X_then ?_
  refine V_true rfl ?_
  refine V_ret ?_
  refine X_ret_then ?_
  exact X_return (.tuple #[]) rfl ⟨rfl, hK0⟩
end Go.Al
