/-
  Walks of package ledger: a new one.
-/
import Derived.Test.YtmflbilhdoiihaaLe7
namespace Go.Al
open Go Go.RowKit Go.Proofs
/-! ### A new ledger -/
def newX (fs : List Int) (n : Nat) : List Acc := (List.range n).map fun k : Nat => Acc.mk ((fs[k]?).getD 0) 0
theorem newX_len (fs : List Int) (n : Nat) : (newX fs n).length = n := by simp [newX]
theorem newX_succ (fs : List Int) (n : Nat) : newX fs (n + 1) = newX fs n ++ [Acc.mk ((fs[n]?).getD 0) 0] := by simp [newX, List.range_succ]
def okF (fs : List Int) (i : Nat) : Prop := ∀ (k : Nat) (x : Int), k < i → fs[k]? = some x → 0 ≤ x ∧ x ≤ 1073741824
def okP (fs : List Int) : Prop := fs.length ≤ 10 ∧ (∀ x ∈ fs, 0 ≤ x ∧ x ≤ 1073741824) ∧ tot (newX fs 10) ≤ 1073741824
theorem okF_all {fs : List Int} (hl : fs.length ≤ 10) (h : okF fs 10) : ∀ x ∈ fs, 0 ≤ x ∧ x ≤ 1073741824 := by
  intro x hx
  obtain ⟨k, hk, rfl⟩ := List.getElem_of_mem hx
  exact h k _ (by omega) (List.getElem?_eq_getElem hk)
theorem newX_nn {fs : List Int} {i : Nat} (h : okF fs i) : ∀ x ∈ newX fs i, 0 ≤ x.free ∧ 0 ≤ x.held := by
  intro x hx
  simp only [newX, List.mem_map, List.mem_range] at hx
  obtain ⟨k, hk, rfl⟩ := hx
  refine ⟨?_, Int.le_refl _⟩
  show 0 ≤ (fs[k]?).getD 0
  cases hf : fs[k]? with
  | none => exact Int.le_refl _
  | some x => exact (h k x hk hf).1
theorem newX_tot {fs : List Int} : ∀ {i : Nat}, okF fs i → tot (newX fs i) ≤ i * 1073741824
  | 0, _ => by simp [newX, tot]
  | i + 1, h => by
    have ih := newX_tot (i := i) (fun k x hk hx => h k x (by omega) hx)
    have happ : ∀ (a b : List Acc), tot (a ++ b) = tot a + tot b := by
      intro a b
      induction a with
      | nil => simp [tot]
      | cons y l ih => simp only [List.cons_append, tot, ih]; omega
    rw [newX_succ, happ]
    simp only [tot]
    have : (fs[i]?).getD 0 ≤ 1073741824 := by
      cases hf : fs[i]? with
      | none => simp
      | some x => exact (h i x (by omega) hf).2
    omega

set_option maxRecDepth 10000 in
theorem new_spec6 (A : Option Addr) (cap : Nat) (fs : List Int) (w : World) (hA : ArgT w 1 intc A cap fs) (hn : fs.length ≤ 100000) : Calls Try.prog 14 #[.slice A fs.length cap] w fun e w' => (okP fs ∧ ∃ l F, e = .returned (.tuple #[.pointer (some ⟨l, 0, none⟩), .int .i64 0]) ∧ Led F w' l (newX fs 10) [] ∧ Keep none_ w w' ∧ (∀ q, F q → w.heap.size ≤ q)) ∨ (¬ okP fs ∧ e = .returned (.tuple #[.pointer none, .int .i64 1]) ∧ Keep none_ w w') := by
  have hA0 := hA
  have hK0 : Keep none_ w w := Keep.refl _ _
  have hzhK0 := Keep.size hK0
  refine enterV Try.func14 rfl [.slice A fs.length cap] 45 rfl rfl rfl ?_
  refine V_pick [(0, .slice A fs.length cap)] rfl ?_
  refine V_seq ?_
  refine V_region ?_
  refine OI_static 2 [(0, .slice A fs.length cap)] (by kernel_rfl) ?_
  refine OI_end rfl ?_
  refine X_then ?_
  refine V_seq ?_
  refine V_seq ?_
  refine V_region ?_
  refine OI_static 3 [(0, .slice A fs.length cap), (9, .bool (decide (((fs.length : Nat) : Int) > 10)))] (by kernel_rfl) ?_
  refine OI_end rfl ?_
  refine X_then ?_
  refine V_if (((fs.length : Nat) : Int) > 10) (by kernel_rfl) (fun hc1 => ?_) (fun hc1 => ?_)
  · skip
    refine V_seq ?_
    refine V_region ?_
    refine OI_static 2 [(2, .pointer none), (3, .int .i64 1)] (by kernel_rfl) ?_
    refine OI_end rfl ?_
    refine X_then ?_
    refine V_ret ?_
    refine X_ret_then ?_
    exact X_return _ rfl (.inr ⟨fun hh => by have := hh.1; omega, rfl, hK0⟩)
  · skip
    refine V_skip ?_
    refine X_then ?_
    refine V_seq ?_
    refine V_region ?_
    refine OI_call { callee := (Callee.value (Operand.func 32)), args := #[], argTypes := #[] } 32 #[] (some 10) (by kernel_rfl) (by kernel_rfl) (by kernel_rfl) (new_grd _) ?_
    rintro _ w4 ⟨g6, F7, rfl, ho8, hk5, hge9⟩
    refine ⟨_, rfl, ?_⟩
    have hsz10 := Keep.size hk5
    replace hA := ArgT.keep0 hA hk5
    replace hK0 := Keep.tr hK0 (Keep.ofNone hk5); have hzhK0 := Keep.size hK0
    have own11 : ∀ q, F7 q → w.heap.size ≤ q := fun q hq => by have h1 := hge9 q hq; omega
    have lt12 := Grd.lt ho8
    have hg6lt : g6 < w4.heap.size := Grd.lt ho8 _ (Grd.at_ ho8)
    have hg6ge := hge9 _ (Grd.at_ ho8)
    refine OI_static 2 [(0, .slice A fs.length cap), (11, .agg #[.slice none 0 0, .pointer (some ⟨g6, 0, none⟩)])] (by kernel_rfl) ?_
    refine OI_box 66 (.tmp 11) (.agg #[.slice none 0 0, .pointer (some ⟨g6, 0, none⟩)]) [.slice none 0 0, .pointer (some ⟨g6, 0, none⟩)] (some 12) (by kernel_rfl) (by kernel_rfl) (by kernel_rfl) ?_
    intro b13 w13 e13 hb13 k13 z13
    have hsz14 := Keep.size k13
    replace hA := ArgT.keep0 hA k13
    replace hK0 := Keep.tr hK0 (Keep.ofNone k13); have hzhK0 := Keep.size hK0
    replace ho8 := Grd.keep ho8 k13 (fun _ _ f => f)
    have hb13lt := hb13.lt
    refine OI_static 4 [(0, .slice A fs.length cap), (4, .pointer (some ⟨b13, 0, none⟩))] (by kernel_rfl) ?_
    refine OI_end rfl ?_
    refine X_then ?_
    refine V_seq ?_
    refine V_seq ?_
    refine V_region ?_
    refine OI_static 1 [(0, .slice A fs.length cap), (4, .pointer (some ⟨b13, 0, none⟩)), (13, .int .i64 0)] (by kernel_rfl) ?_
    refine OI_end rfl ?_
    refine X_then ?_
    refine V_block ?_
    refine V_pick [(0, .slice A fs.length cap), (4, .pointer (some ⟨b13, 0, none⟩)), (13, .int .i64 0)] rfl ?_
    refine V_loop (fun k wI e => ∃ i : Nat, ∃ A2 : Option Addr, ∃ cap2 : Nat, (k + i = 10) ∧ (Blk wI b13 [.slice A2 (newX fs i).length cap2, .pointer (some ⟨g6, 0, none⟩)] 66) ∧ (SlT wI 2 Acc.cells A2 cap2 (newX fs i)) ∧ (∀ q, inA A2 q → w13.heap.size ≤ q) ∧ (okF fs i) ∧ Keep (only b13) w13 wI ∧ e = [(0, .slice A fs.length cap), (4, .pointer (some ⟨b13, 0, none⟩)), (13, .int .i64 ((i : Nat) : Int))]) 10 ⟨0, none, 0, by omega, hb13, SlT.nil _ _ _, fun q h => (inA_none h).elim, fun k x h => by omega, Keep.refl _ _, rfl⟩ ?_
    rintro k16 w15 _ ⟨i, A2, cap2, hki, hl2, hA2, ow2, hokf, hk17, rfl⟩
    have hsz18 := Keep.size hk17
    replace hA := ArgT.keep hA hk17 hA0 (fun k hk hs => by have hs : k = b13 := hs; omega)
    replace hK0 := Keep.fresh hK0 hk17 (by intro i hi hs; first | exact hs | exact Or.inl hs | exact Or.inr hs | (exfalso; have hs2 : i = b13 := hs; omega)); have hzhK0 := Keep.size hK0
    replace ho8 := Grd.keep ho8 hk17 (fun q hq hs => by have hs : q = b13 := hs; have g0 := own11 q hq; have g1 := lt12 q hq; omega)
    have hzhk17 := Keep.size hk17
    have lt2 := SlT.lt hA2
    have hb13lt := hl2.lt
    have hnl := newX_len fs i
    refine V_seq ?_
    refine V_region ?_
    refine OI_static 1 [(0, .slice A fs.length cap), (4, .pointer (some ⟨b13, 0, none⟩)), (13, .int .i64 ((i : Nat) : Int)), (14, .bool (decide (((i : Nat) : Int) < 10)))] (by kernel_rfl) ?_
    refine OI_end rfl ?_
    refine X_then ?_
    refine V_seq ?_
    refine V_if (((i : Nat) : Int) < 10) (by kernel_rfl) (fun hc19 => ?_) (fun hc19 => ?_)
    · skip
      refine V_skip ?_
      refine X_then ?_
      refine V_seq ?_
      refine V_block ?_
      refine V_seq ?_
      refine V_region ?_
      refine OI_static 2 [(0, .slice A fs.length cap), (4, .pointer (some ⟨b13, 0, none⟩)), (5, .int .i64 ((i : Nat) : Int)), (13, .int .i64 ((i : Nat) : Int))] (by kernel_rfl) ?_
      refine OI_end rfl ?_
      refine X_then ?_
      refine V_seq ?_
      refine V_region ?_
      refine OI_static 1 [(0, .slice A fs.length cap), (4, .pointer (some ⟨b13, 0, none⟩)), (5, .int .i64 ((i : Nat) : Int)), (13, .int .i64 ((i : Nat) : Int)), (16, .agg #[.int .i64 0, .int .i64 0])] (by kernel_rfl) ?_
      refine OI_alloc 68 (.agg #[.int .i64 0, .int .i64 0]) [.int .i64 0, .int .i64 0] (some 6) (by kernel_rfl) (by kernel_rfl) (by kernel_rfl) ?_
      intro b20 w20 e20 hb20 k20 z20
      have hsz21 := Keep.size k20
      replace hl2 := hl2.keep k20 (fun f => f)
      have hb13lt := hl2.lt
      replace hA := ArgT.keep0 hA k20
      replace hA2 := SlT.keep0 hA2 k20
      replace hK0 := Keep.tr hK0 (Keep.ofNone k20); have hzhK0 := Keep.size hK0
      replace ho8 := Grd.keep ho8 k20 (fun _ _ f => f)
      replace hk17 := Keep.tr hk17 (Keep.ofNone k20); have hzhk17 := Keep.size hk17
      have hb20lt := hb20.lt
      refine OI_set (m := 2) (kd := true) 68 (.tmp 6) (.tmp 16) 0 (.agg #[.int .i64 0, .int .i64 0]) [.int .i64 0, .int .i64 0] none (by kernel_rfl) (by kernel_rfl) (by kernel_rfl) hb20 (by kernel_rfl) (by kernel_rfl) (by kernel_rfl) (Nat.le_of_ble_eq_true (by kernel_rfl)) (by simp [Value.oneCell']) ?_
      intro w22 hb20_25 hk23 hz24
      replace hb20_25 : Blk w22 b20 [.int .i64 0, .int .i64 0] 68 := hb20_25
      have hsz26 := Keep.size hk23
      replace hl2 := hl2.keep hk23 (by show ¬ (_ = _); omega)
      have hb13lt := hl2.lt
      replace hA := ArgT.keep hA hk23 hA0 (fun k hk hs => by have hs : k = b20 := hs; omega)
      replace hA2 := SlT.keep hA2 hk23 (fun q hq hs => by have hs : q = b20 := hs; have g0 := ow2 q hq; have g1 := lt2 q hq; omega)
      replace hK0 := Keep.fresh hK0 hk23 (by intro i hi hs; first | exact hs | exact Or.inl hs | exact Or.inr hs | (exfalso; have hs2 : i = b20 := hs; omega)); have hzhK0 := Keep.size hK0
      replace ho8 := Grd.keep ho8 hk23 (fun q hq hs => by have hs : q = b20 := hs; have g0 := own11 q hq; have g1 := lt12 q hq; omega)
      replace hk17 := Keep.fresh hk17 hk23 (by intro i hi hs; first | exact hs | exact Or.inl hs | exact Or.inr hs | (exfalso; have hs2 : i = b20 := hs; omega)); have hzhk17 := Keep.size hk17
      refine OI_end rfl ?_
      refine X_then ?_
      refine V_seq ?_
      refine V_seq ?_
      refine V_region ?_
      refine OI_static 4 [(0, .slice A fs.length cap), (4, .pointer (some ⟨b13, 0, none⟩)), (5, .int .i64 ((i : Nat) : Int)), (6, .pointer (some ⟨b20, 0, none⟩)), (13, .int .i64 ((i : Nat) : Int)), (20, .bool (decide (((i : Nat) : Int) < ((fs.length : Nat) : Int))))] (by kernel_rfl) ?_
      refine OI_end rfl ?_
      refine X_then ?_
      refine V_if (((i : Nat) : Int) < ((fs.length : Nat) : Int)) (by kernel_rfl) (fun hc27 => ?_) (fun hc27 => ?_)
      · skip
        refine V_region ?_
        refine OI_static 2 [(0, .slice A fs.length cap), (4, .pointer (some ⟨b13, 0, none⟩)), (6, .pointer (some ⟨b20, 0, none⟩)), (13, .int .i64 ((i : Nat) : Int)), (21, .slice A fs.length cap), (22, .int .i64 ((i : Nat) : Int))] (by kernel_rfl) ?_
        obtain ⟨b28, o28, L28, rfl, hat28⟩ := ArgT.open_ hA (by first | omega | (simp only [List.length_map]; omega) | (simp; done) | (simp; omega))
        have hb28lt0 := ArgT.lt hA0 (by first | omega | (simp only [List.length_map]; omega) | (simp; done) | (simp; omega))
        have hb28lt := hat28.blk.lt
        refine OI_pure (some 23) (.indexAddr 26 (.tmp 21) (.tmp 22)) (by kernel_rfl) (pure_idxN (b := b28) (o := o28) (len := fs.length) (cap := cap) (kd := .i64) (j := i) (E := 3) (sz := 1) (by_ := 8) (by kernel_rfl) (by kernel_rfl) (by kernel_rfl) (by omega)) ?_
        obtain ⟨x29, hx30⟩ : ∃ x, fs[i]? = some x := ⟨_, List.getElem?_eq_getElem (by first | omega | (simp only [List.length_map]; omega))⟩
        refine OI_cellR 3 (.tmp 23) (o28 + i * 1) (.int .i64 x29) (some 24) (by kernel_rfl) (by kernel_rfl) hat28.blk (m := 1) (by kernel_rfl) (AtR.cell0 hat28 (es_at hx30) rfl) ?_
        refine OI_static 5 [(0, .slice (some ⟨b28, o28, none⟩) fs.length cap), (4, .pointer (some ⟨b13, 0, none⟩)), (6, .pointer (some ⟨b20, 0, none⟩)), (13, .int .i64 ((i : Nat) : Int)), (24, .int .i64 x29), (25, .pointer (some ⟨b20, 0, none⟩))] (by kernel_rfl) ?_
        refine OI_set (m := 1) (kd := false) 3 (.tmp 25) (.tmp 24) 0 (.int .i64 x29) [.int .i64 x29] none (by kernel_rfl) (by kernel_rfl) (by kernel_rfl) hb20_25 (by kernel_rfl) (by kernel_rfl) (by kernel_rfl) (Nat.le_of_ble_eq_true (by kernel_rfl)) (by simp [Value.oneCell']) ?_
        intro w31 hb20_34 hk32 hz33
        replace hb20_34 : Blk w31 b20 [.int .i64 x29, .int .i64 0] 68 := hb20_34
        have hsz35 := Keep.size hk32
        replace hl2 := hl2.keep hk32 (by show ¬ (_ = _); omega)
        have hb13lt := hl2.lt
        replace hat28 := hat28.keep hk32 (by show ¬ (_ = _); omega)
        have hb28lt := hat28.blk.lt
        replace hA2 := SlT.keep hA2 hk32 (fun q hq hs => by have hs : q = b20 := hs; have g0 := ow2 q hq; have g1 := lt2 q hq; omega)
        replace hK0 := Keep.fresh hK0 hk32 (by intro i hi hs; first | exact hs | exact Or.inl hs | exact Or.inr hs | (exfalso; have hs2 : i = b20 := hs; omega)); have hzhK0 := Keep.size hK0
        replace ho8 := Grd.keep ho8 hk32 (fun q hq hs => by have hs : q = b20 := hs; have g0 := own11 q hq; have g1 := lt12 q hq; omega)
        replace hk17 := Keep.fresh hk17 hk32 (by intro i hi hs; first | exact hs | exact Or.inl hs | exact Or.inr hs | (exfalso; have hs2 : i = b20 := hs; omega)); have hzhk17 := Keep.size hk17
        refine OI_end rfl ?_
        refine X_then ?_
        refine V_seq ?_
        refine V_seq ?_
        refine V_region ?_
        refine OI_static 1 [(0, .slice (some ⟨b28, o28, none⟩) fs.length cap), (4, .pointer (some ⟨b13, 0, none⟩)), (6, .pointer (some ⟨b20, 0, none⟩)), (13, .int .i64 ((i : Nat) : Int)), (26, .pointer (some ⟨b20, 0, none⟩))] (by kernel_rfl) ?_
        refine OI_cell 3 (.tmp 26) 0 (.int .i64 x29) (some 27) (by kernel_rfl) (by kernel_rfl) hb20_34 (m := 1) (by kernel_rfl) rfl ?_
        refine OI_call { callee := (Callee.value (Operand.func 33)), args := #[(Operand.tmp 27)], argTypes := #[3] } 33 #[.int .i64 x29] (some 28) (by kernel_rfl) (by kernel_rfl) (by kernel_rfl) (isAmount_spec x29 _) ?_
        rintro _ w31 ⟨rfl, rfl⟩
        refine ⟨_, rfl, ?_⟩
        refine OI_static 4 [(0, .slice (some ⟨b28, o28, none⟩) fs.length cap), (4, .pointer (some ⟨b13, 0, none⟩)), (6, .pointer (some ⟨b20, 0, none⟩)), (13, .int .i64 ((i : Nat) : Int)), (29, .bool (!(decide (0 ≤ x29 ∧ x29 ≤ 1073741824))))] (by kernel_rfl) ?_
        refine OI_end rfl ?_
        refine X_then ?_
        refine V_not (0 ≤ x29 ∧ x29 ≤ 1073741824) (by kernel_rfl) (fun hc41 => ?_) (fun hc41 => ?_)
        · skip
          refine V_seq ?_
          refine V_region ?_
          refine OI_static 2 [(2, .pointer none), (3, .int .i64 1)] (by kernel_rfl) ?_
          refine OI_end rfl ?_
          refine X_then ?_
          refine V_ret ?_
          refine X_ret_then ?_
          refine X_ret_block ?_
          refine X_ret_then ?_
          refine X_ret_then ?_
          refine X_ret_block ?_
          refine X_ret_then ?_
          exact X_return _ rfl (.inr ⟨fun hh => hc41 (hh.2.1 _ (List.mem_of_getElem? hx30)), rfl, hK0⟩)
        · skip
          refine V_skip ?_
          refine X_then ?_
          refine V_draws (acts [6, 7, 10]) (fun q => q ≠ b13 ∧ q ≠ b20) [[5, 6, 1, 2, 3, 4, 7, 0, 8, 9, 10]] (by kernel_rfl) (by repeat first | exact sure_body (by rintro _ _ (⟨_, _, _, h, _⟩ | ⟨_, h, _⟩) <;> exact ⟨_, h⟩) | refine sure_then ?_ | refine sure_block ?_ | refine sure_join ?_) (by kernel_rfl) ?_
          intro w43 hk42 he44 L hL45
          have hsz46 := Keep.size hk42
          replace hl2 := hl2.keep hk42 (fun f => f)
          have hb13lt := hl2.lt
          replace hb20_34 := hb20_34.keep hk42 (fun f => f)
          have hb20lt := hb20_34.lt
          replace hat28 := hat28.keep hk42 (fun f => f)
          have hb28lt := hat28.blk.lt
          replace hA2 := SlT.keep0 hA2 hk42
          replace hK0 := Keep.tr hK0 (Keep.ofNone hk42); have hzhK0 := Keep.size hK0
          replace ho8 := Grd.keep ho8 hk42 (fun _ _ f => f)
          replace hk17 := Keep.tr hk17 (Keep.ofNone hk42); have hzhk17 := Keep.size hk17
          have qhl2 := hl2
          have qhb20_34 := hb20_34
          have qhat28 := hat28
          have K47 : Keep (fun q => q ≠ b13 ∧ q ≠ b20) w43 w43 := Keep.refl _ _
          obtain rfl := List.mem_singleton.1 hL45
          refine GI_agg 68 (.tmp 6) 0 [.int .i64 x29, .int .i64 0] (some 35) (by kernel_rfl) (by kernel_rfl) (by kernel_rfl) qhb20_34 (by show ¬ (b20 ≠ b13 ∧ b20 ≠ b20); omega) (m := 2) (by kernel_rfl) rfl rfl ?_
          refine GI_slit (E := 68) (zv := .agg #[.int .i64 0, .int .i64 0]) (sz := 2) (by_ := 16) 64 1 #[(0, (Operand.tmp 35))] [.agg #[.int .i64 x29, .int .i64 0]] [.int .i64 x29, .int .i64 0] (some 36) (by kernel_rfl) (by kernel_rfl) K47 (by kernel_rfl) (by kernel_rfl) (by omega) rfl (by omega) (by intro v hv; simp only [List.mem_cons, List.not_mem_nil, or_false] at hv; rcases hv with rfl <;> rfl) (by kernel_rfl) rfl ?_
          intro b48 w48 e48 hb48 k48 z48 K49
          have hsz50 := Keep.size k48
          replace hl2 := hl2.keep k48 (fun f => f)
          have hb13lt := hl2.lt
          replace hb20_34 := hb20_34.keep k48 (fun f => f)
          have hb20lt := hb20_34.lt
          replace hat28 := hat28.keep k48 (fun f => f)
          have hb28lt := hat28.blk.lt
          replace hA2 := SlT.keep0 hA2 k48
          replace hK0 := Keep.tr hK0 (Keep.ofNone k48); have hzhK0 := Keep.size hK0
          replace ho8 := Grd.keep ho8 k48 (fun _ _ f => f)
          replace hk17 := Keep.tr hk17 (Keep.ofNone k48); have hzhk17 := Keep.size hk17
          have hb48lt := hb48.lt
          refine GI_static [4, 7, 0, 8, 9, 10] [(0, .slice (some ⟨b28, o28, none⟩) fs.length cap), (4, .pointer (some ⟨b13, 0, none⟩)), (13, .int .i64 ((i : Nat) : Int)), (33, .pointer (some ⟨b13, 0, none⟩)), (36, .slice (some ⟨b48, 0, none⟩) 1 1)] (by kernel_rfl) ?_
          refine GI_cell 64 (.tmp 33) 0 (.slice A2 ((newX fs i).length) cap2) (some 34) (by kernel_rfl) (by kernel_rfl) (by kernel_rfl) qhl2 (by show ¬ (b13 ≠ b13 ∧ b13 ≠ b20); omega) (m := 1) (by kernel_rfl) rfl ?_
          refine GI_append (t := 64) (at2 := 64) (E := 68) (E2 := 68) (sz := 2) (by_ := 16) (zv := .agg #[.int .i64 0, .int .i64 0]) (m := (newX fs i).length) (k := 1) (.tmp 34) (.tmp 36) (.slice A2 ((newX fs i).length) cap2) (.slice (some ⟨b48, 0, none⟩) 1 1) (some 37) (by kernel_rfl) (by kernel_rfl) (by kernel_rfl) (by kernel_rfl) (by kernel_rfl) (by kernel_rfl) (by kernel_rfl) (by kernel_rfl) (SlT.slr hA2) (slr_one hb48 (Acc.len (Acc.mk x29 0))) (Acc.one (Acc.mk x29 0)) (by first | omega | (simp only [List.length_nil]; omega)) (by omega) (by first | omega | (simp only [List.length_nil]; omega)) (by omega) ?_
          intro vv9 w51 hap
          obtain ⟨A51, cap51, rfl, hA51, hk51, own51x⟩ := app_one (f := Acc.cells) (xs := (newX fs i)) (x := (Acc.mk x29 0)) (A := A2) (cap := cap2) hap (fun x _ => Acc.len x) (Acc.len _)
          have own51 : ∀ q, inA A51 q → w13.heap.size ≤ q := fun q hq => by rcases own51x q hq with h | h; exact ow2 q h; (show w13.heap.size ≤ q; omega)
          refine ⟨Keep.fresh K49 hk51 (by intro i hi hs; have h1 := ow2 i hs; have h2 := lt2 i hs; show i ≠ b13 ∧ i ≠ b20; omega), ?_⟩
          have K52 := Keep.fresh K49 hk51 (by intro i hi hs; have h1 := ow2 i hs; have h2 := lt2 i hs; show i ≠ b13 ∧ i ≠ b20; omega)
          have hsz53 := Keep.size hk51
          replace hl2 := hl2.keep hk51 (fun hs => by have h1 := ow2 _ hs; have h2 := lt2 _ hs; omega)
          have hb13lt := hl2.lt
          replace hb20_34 := hb20_34.keep hk51 (fun hs => by have h1 := ow2 _ hs; have h2 := lt2 _ hs; omega)
          have hb20lt := hb20_34.lt
          replace hat28 := hat28.keep hk51 (fun hs => by have h1 := ow2 _ hs; have h2 := lt2 _ hs; omega)
          have hb28lt := hat28.blk.lt
          replace hK0 := Keep.fresh hK0 hk51 (by intro i hi hs; first | exact hs | (exfalso; have h1 := ow2 i hs; have h2 := lt2 i hs; omega) | (have h1 := ow2 i hs; have h2 := lt2 i hs; show _ ∨ _; omega)); have hzhK0 := Keep.size hK0
          replace ho8 := Grd.keep ho8 hk51 (fun q hq hs => by have g0 := own11 q hq; have g1 := lt12 q hq; have h1 := ow2 q hs; have h2 := lt2 q hs; omega)
          replace hk17 := Keep.fresh hk17 hk51 (by intro i hi hs; first | exact hs | (exfalso; have h1 := ow2 i hs; have h2 := lt2 i hs; omega) | (have h1 := ow2 i hs; have h2 := lt2 i hs; show _ ∨ _; omega)); have hzhk17 := Keep.size hk17
          have lt51 := SlT.lt hA51
          refine GI_static [10] [(0, .slice (some ⟨b28, o28, none⟩) fs.length cap), (4, .pointer (some ⟨b13, 0, none⟩)), (13, .int .i64 ((i : Nat) : Int)), (37, .slice A51 (((newX fs i) ++ [Acc.mk x29 0]).length) cap51), (39, .pointer (some ⟨b13, 0, none⟩))] (by kernel_rfl) ?_
          refine GI_final 10 (by kernel_rfl) (by kernel_rfl) ?_
          refine OI_set (m := 1) (kd := false) 64 (.tmp 39) (.tmp 37) 0 (.slice A51 (((newX fs i) ++ [Acc.mk x29 0]).length) cap51) [.slice A51 (((newX fs i) ++ [Acc.mk x29 0]).length) cap51] none (by kernel_rfl) (by kernel_rfl) (by kernel_rfl) hl2 (by kernel_rfl) (by kernel_rfl) (by kernel_rfl) (Nat.le_of_ble_eq_true (by kernel_rfl)) (by simp [Value.oneCell']) ?_
          intro w54 hb13_57 hk55 hz56
          replace hb13_57 : Blk w54 b13 [.slice A51 (((newX fs i) ++ [Acc.mk x29 0]).length) cap51, .pointer (some ⟨g6, 0, none⟩)] 66 := hb13_57
          have hsz58 := Keep.size hk55
          replace hb20_34 := hb20_34.keep hk55 (by show ¬ (_ = _); omega)
          have hb20lt := hb20_34.lt
          replace hat28 := hat28.keep hk55 (by show ¬ (_ = _); omega)
          have hb28lt := hat28.blk.lt
          replace hA51 := SlT.keep hA51 hk55 (fun q hq hs => by have hs : q = b13 := hs; have g0 := own51 q hq; have g1 := lt51 q hq; omega)
          replace hK0 := Keep.fresh hK0 hk55 (by intro i hi hs; first | exact hs | exact Or.inl hs | exact Or.inr hs | (exfalso; have hs2 : i = b13 := hs; omega)); have hzhK0 := Keep.size hK0
          replace ho8 := Grd.keep ho8 hk55 (fun q hq hs => by have hs : q = b13 := hs; have g0 := own11 q hq; have g1 := lt12 q hq; omega)
          replace hk17 := Keep.fresh hk17 hk55 (by intro i hi hs; first | exact hs | exact Or.inl hs | exact Or.inr hs | (exfalso; have hs2 : i = b13 := hs; omega)); have hzhk17 := Keep.size hk17
          refine OI_end rfl ?_
          refine X_block ?_
          refine X_then ?_
          refine V_region ?_
          have hw59 : IntKind.i64.wrap (((i : Nat) : Int) + 1) = ((i + 1 : Nat) : Int) := (wrap64_id (by omega) (by omega)).trans (by omega)
          refine OI_static 1 [(0, .slice (some ⟨b28, o28, none⟩) fs.length cap), (4, .pointer (some ⟨b13, 0, none⟩)), (40, .int .i64 (IntKind.i64.wrap (((i : Nat) : Int) + 1)))] (by kernel_rfl) ?_
          refine OI_eq [(0, .slice (some ⟨b28, o28, none⟩) fs.length cap), (4, .pointer (some ⟨b13, 0, none⟩)), (40, .int .i64 ((i + 1 : Nat) : Int))] (by rw [hw59]) ?_
          refine OI_static 2 [(0, .slice (some ⟨b28, o28, none⟩) fs.length cap), (4, .pointer (some ⟨b13, 0, none⟩)), (13, .int .i64 ((i + 1 : Nat) : Int))] (by kernel_rfl) ?_
          refine OI_end rfl ?_
          have hns : newX fs (i + 1) = newX fs i ++ [Acc.mk x29 0] := (by rw [newX_succ, show (fs[i]?).getD 0 = x29 from by rw [hx30]; rfl])
          exact V_again (k16 - 1) (by omega) [(0, .slice (some ⟨b28, o28, none⟩) fs.length cap), (4, .pointer (some ⟨b13, 0, none⟩)), (13, .int .i64 ((i + 1 : Nat) : Int))] rfl ⟨i + 1, A51, cap51, by omega, by rw [hns]; exact hb13_57, by rw [hns]; exact hA51, own51, fun k x hk hx => by rcases Nat.lt_or_ge k i with h9 | h9; exact hokf k x h9 hx; (obtain rfl : k = i := by omega); (rw [hx30] at hx; cases hx; exact hc41), hk17, rfl⟩
      · skip
        refine V_skip ?_
        refine X_then ?_
        refine V_seq ?_
        refine V_seq ?_
        refine V_region ?_
        refine OI_static 1 [(0, .slice A fs.length cap), (4, .pointer (some ⟨b13, 0, none⟩)), (6, .pointer (some ⟨b20, 0, none⟩)), (13, .int .i64 ((i : Nat) : Int)), (26, .pointer (some ⟨b20, 0, none⟩))] (by kernel_rfl) ?_
        refine OI_cell 3 (.tmp 26) 0 (.int .i64 0) (some 27) (by kernel_rfl) (by kernel_rfl) hb20_25 (m := 1) (by kernel_rfl) rfl ?_
        refine OI_call { callee := (Callee.value (Operand.func 33)), args := #[(Operand.tmp 27)], argTypes := #[3] } 33 #[.int .i64 0] (some 28) (by kernel_rfl) (by kernel_rfl) (by kernel_rfl) (isAmount_spec 0 _) ?_
        rintro _ w22 ⟨rfl, rfl⟩
        refine ⟨_, rfl, ?_⟩
        refine OI_static 4 [(0, .slice A fs.length cap), (4, .pointer (some ⟨b13, 0, none⟩)), (6, .pointer (some ⟨b20, 0, none⟩)), (13, .int .i64 ((i : Nat) : Int)), (29, .bool (!(decide (0 ≤ (0 : Int) ∧ 0 ≤ 1073741824))))] (by kernel_rfl) ?_
        refine OI_end rfl ?_
        refine X_then ?_
        refine V_not (0 ≤ (0 : Int) ∧ 0 ≤ 1073741824) (by kernel_rfl) (fun hc65 => ?_) (fun hc65 => ?_)
        · skip
          exact (by omega : False).elim
        · skip
          refine V_skip ?_
          refine X_then ?_
          refine V_draws (acts [6, 7, 10]) (fun q => q ≠ b13 ∧ q ≠ b20) [[5, 6, 1, 2, 3, 4, 7, 0, 8, 9, 10]] (by kernel_rfl) (by repeat first | exact sure_body (by rintro _ _ (⟨_, _, _, h, _⟩ | ⟨_, h, _⟩) <;> exact ⟨_, h⟩) | refine sure_then ?_ | refine sure_block ?_ | refine sure_join ?_) (by kernel_rfl) ?_
          intro w67 hk66 he68 L hL69
          have hsz70 := Keep.size hk66
          replace hl2 := hl2.keep hk66 (fun f => f)
          have hb13lt := hl2.lt
          replace hb20_25 := hb20_25.keep hk66 (fun f => f)
          have hb20lt := hb20_25.lt
          replace hA := ArgT.keep0 hA hk66
          replace hA2 := SlT.keep0 hA2 hk66
          replace hK0 := Keep.tr hK0 (Keep.ofNone hk66); have hzhK0 := Keep.size hK0
          replace ho8 := Grd.keep ho8 hk66 (fun _ _ f => f)
          replace hk17 := Keep.tr hk17 (Keep.ofNone hk66); have hzhk17 := Keep.size hk17
          have qhl2 := hl2
          have qhb20_25 := hb20_25
          have K71 : Keep (fun q => q ≠ b13 ∧ q ≠ b20) w67 w67 := Keep.refl _ _
          obtain rfl := List.mem_singleton.1 hL69
          refine GI_agg 68 (.tmp 6) 0 [.int .i64 0, .int .i64 0] (some 35) (by kernel_rfl) (by kernel_rfl) (by kernel_rfl) qhb20_25 (by show ¬ (b20 ≠ b13 ∧ b20 ≠ b20); omega) (m := 2) (by kernel_rfl) rfl rfl ?_
          refine GI_slit (E := 68) (zv := .agg #[.int .i64 0, .int .i64 0]) (sz := 2) (by_ := 16) 64 1 #[(0, (Operand.tmp 35))] [.agg #[.int .i64 0, .int .i64 0]] [.int .i64 0, .int .i64 0] (some 36) (by kernel_rfl) (by kernel_rfl) K71 (by kernel_rfl) (by kernel_rfl) (by omega) rfl (by omega) (by intro v hv; simp only [List.mem_cons, List.not_mem_nil, or_false] at hv; rcases hv with rfl <;> rfl) (by kernel_rfl) rfl ?_
          intro b72 w72 e72 hb72 k72 z72 K73
          have hsz74 := Keep.size k72
          replace hl2 := hl2.keep k72 (fun f => f)
          have hb13lt := hl2.lt
          replace hb20_25 := hb20_25.keep k72 (fun f => f)
          have hb20lt := hb20_25.lt
          replace hA := ArgT.keep0 hA k72
          replace hA2 := SlT.keep0 hA2 k72
          replace hK0 := Keep.tr hK0 (Keep.ofNone k72); have hzhK0 := Keep.size hK0
          replace ho8 := Grd.keep ho8 k72 (fun _ _ f => f)
          replace hk17 := Keep.tr hk17 (Keep.ofNone k72); have hzhk17 := Keep.size hk17
          have hb72lt := hb72.lt
          refine GI_static [4, 7, 0, 8, 9, 10] [(0, .slice A fs.length cap), (4, .pointer (some ⟨b13, 0, none⟩)), (13, .int .i64 ((i : Nat) : Int)), (33, .pointer (some ⟨b13, 0, none⟩)), (36, .slice (some ⟨b72, 0, none⟩) 1 1)] (by kernel_rfl) ?_
          refine GI_cell 64 (.tmp 33) 0 (.slice A2 ((newX fs i).length) cap2) (some 34) (by kernel_rfl) (by kernel_rfl) (by kernel_rfl) qhl2 (by show ¬ (b13 ≠ b13 ∧ b13 ≠ b20); omega) (m := 1) (by kernel_rfl) rfl ?_
          refine GI_append (t := 64) (at2 := 64) (E := 68) (E2 := 68) (sz := 2) (by_ := 16) (zv := .agg #[.int .i64 0, .int .i64 0]) (m := (newX fs i).length) (k := 1) (.tmp 34) (.tmp 36) (.slice A2 ((newX fs i).length) cap2) (.slice (some ⟨b72, 0, none⟩) 1 1) (some 37) (by kernel_rfl) (by kernel_rfl) (by kernel_rfl) (by kernel_rfl) (by kernel_rfl) (by kernel_rfl) (by kernel_rfl) (by kernel_rfl) (SlT.slr hA2) (slr_one hb72 (Acc.len (Acc.mk 0 0))) (Acc.one (Acc.mk 0 0)) (by first | omega | (simp only [List.length_nil]; omega)) (by omega) (by first | omega | (simp only [List.length_nil]; omega)) (by omega) ?_
          intro vv9 w75 hap
          obtain ⟨A75, cap75, rfl, hA75, hk75, own75x⟩ := app_one (f := Acc.cells) (xs := (newX fs i)) (x := (Acc.mk 0 0)) (A := A2) (cap := cap2) hap (fun x _ => Acc.len x) (Acc.len _)
          have own75 : ∀ q, inA A75 q → w13.heap.size ≤ q := fun q hq => by rcases own75x q hq with h | h; exact ow2 q h; (show w13.heap.size ≤ q; omega)
          refine ⟨Keep.fresh K73 hk75 (by intro i hi hs; have h1 := ow2 i hs; have h2 := lt2 i hs; show i ≠ b13 ∧ i ≠ b20; omega), ?_⟩
          have K76 := Keep.fresh K73 hk75 (by intro i hi hs; have h1 := ow2 i hs; have h2 := lt2 i hs; show i ≠ b13 ∧ i ≠ b20; omega)
          have hsz77 := Keep.size hk75
          replace hl2 := hl2.keep hk75 (fun hs => by have h1 := ow2 _ hs; have h2 := lt2 _ hs; omega)
          have hb13lt := hl2.lt
          replace hb20_25 := hb20_25.keep hk75 (fun hs => by have h1 := ow2 _ hs; have h2 := lt2 _ hs; omega)
          have hb20lt := hb20_25.lt
          replace hA := ArgT.keep hA hk75 hA0 (fun k hk hs => by have h1 := ow2 k hs; have h2 := lt2 k hs; omega)
          replace hK0 := Keep.fresh hK0 hk75 (by intro i hi hs; first | exact hs | (exfalso; have h1 := ow2 i hs; have h2 := lt2 i hs; omega) | (have h1 := ow2 i hs; have h2 := lt2 i hs; show _ ∨ _; omega)); have hzhK0 := Keep.size hK0
          replace ho8 := Grd.keep ho8 hk75 (fun q hq hs => by have g0 := own11 q hq; have g1 := lt12 q hq; have h1 := ow2 q hs; have h2 := lt2 q hs; omega)
          replace hk17 := Keep.fresh hk17 hk75 (by intro i hi hs; first | exact hs | (exfalso; have h1 := ow2 i hs; have h2 := lt2 i hs; omega) | (have h1 := ow2 i hs; have h2 := lt2 i hs; show _ ∨ _; omega)); have hzhk17 := Keep.size hk17
          have lt75 := SlT.lt hA75
          refine GI_static [10] [(0, .slice A fs.length cap), (4, .pointer (some ⟨b13, 0, none⟩)), (13, .int .i64 ((i : Nat) : Int)), (37, .slice A75 (((newX fs i) ++ [Acc.mk 0 0]).length) cap75), (39, .pointer (some ⟨b13, 0, none⟩))] (by kernel_rfl) ?_
          refine GI_final 10 (by kernel_rfl) (by kernel_rfl) ?_
          refine OI_set (m := 1) (kd := false) 64 (.tmp 39) (.tmp 37) 0 (.slice A75 (((newX fs i) ++ [Acc.mk 0 0]).length) cap75) [.slice A75 (((newX fs i) ++ [Acc.mk 0 0]).length) cap75] none (by kernel_rfl) (by kernel_rfl) (by kernel_rfl) hl2 (by kernel_rfl) (by kernel_rfl) (by kernel_rfl) (Nat.le_of_ble_eq_true (by kernel_rfl)) (by simp [Value.oneCell']) ?_
          intro w78 hb13_81 hk79 hz80
          replace hb13_81 : Blk w78 b13 [.slice A75 (((newX fs i) ++ [Acc.mk 0 0]).length) cap75, .pointer (some ⟨g6, 0, none⟩)] 66 := hb13_81
          have hsz82 := Keep.size hk79
          replace hb20_25 := hb20_25.keep hk79 (by show ¬ (_ = _); omega)
          have hb20lt := hb20_25.lt
          replace hA := ArgT.keep hA hk79 hA0 (fun k hk hs => by have hs : k = b13 := hs; omega)
          replace hA75 := SlT.keep hA75 hk79 (fun q hq hs => by have hs : q = b13 := hs; have g0 := own75 q hq; have g1 := lt75 q hq; omega)
          replace hK0 := Keep.fresh hK0 hk79 (by intro i hi hs; first | exact hs | exact Or.inl hs | exact Or.inr hs | (exfalso; have hs2 : i = b13 := hs; omega)); have hzhK0 := Keep.size hK0
          replace ho8 := Grd.keep ho8 hk79 (fun q hq hs => by have hs : q = b13 := hs; have g0 := own11 q hq; have g1 := lt12 q hq; omega)
          replace hk17 := Keep.fresh hk17 hk79 (by intro i hi hs; first | exact hs | exact Or.inl hs | exact Or.inr hs | (exfalso; have hs2 : i = b13 := hs; omega)); have hzhk17 := Keep.size hk17
          refine OI_end rfl ?_
          refine X_block ?_
          refine X_then ?_
          refine V_region ?_
          have hw83 : IntKind.i64.wrap (((i : Nat) : Int) + 1) = ((i + 1 : Nat) : Int) := (wrap64_id (by omega) (by omega)).trans (by omega)
          refine OI_static 1 [(0, .slice A fs.length cap), (4, .pointer (some ⟨b13, 0, none⟩)), (40, .int .i64 (IntKind.i64.wrap (((i : Nat) : Int) + 1)))] (by kernel_rfl) ?_
          refine OI_eq [(0, .slice A fs.length cap), (4, .pointer (some ⟨b13, 0, none⟩)), (40, .int .i64 ((i + 1 : Nat) : Int))] (by rw [hw83]) ?_
          refine OI_static 2 [(0, .slice A fs.length cap), (4, .pointer (some ⟨b13, 0, none⟩)), (13, .int .i64 ((i + 1 : Nat) : Int))] (by kernel_rfl) ?_
          refine OI_end rfl ?_
          have hns : newX fs (i + 1) = newX fs i ++ [Acc.mk 0 0] := (by rw [newX_succ, show (fs[i]?).getD 0 = 0 from by rw [List.getElem?_eq_none (by omega)]; rfl])
          exact V_again (k16 - 1) (by omega) [(0, .slice A fs.length cap), (4, .pointer (some ⟨b13, 0, none⟩)), (13, .int .i64 ((i + 1 : Nat) : Int))] rfl ⟨i + 1, A75, cap75, by omega, by rw [hns]; exact hb13_81, by rw [hns]; exact hA75, own75, fun k x hk hx => by rcases Nat.lt_or_ge k i with h9 | h9; exact hokf k x h9 hx; (obtain rfl : k = i := by omega); (rw [List.getElem?_eq_none (by omega)] at hx; cases hx), hk17, rfl⟩
    · skip
      refine V_exit ?_
      refine X_exit_then ?_
      refine X_exit_then ?_
      refine X_exit_here ?_
      refine X_then ?_
      refine V_seq ?_
      refine V_seq ?_
      refine V_region ?_
      refine OI_static 1 [(4, .pointer (some ⟨b13, 0, none⟩)), (41, .pointer (some ⟨b13, 0, none⟩))] (by kernel_rfl) ?_
      obtain rfl : i = 10 := by omega
      have hnn := newX_nn hokf
      have htl := newX_tot hokf
      refine OI_call { callee := (Callee.value (Operand.func 19)), args := #[(Operand.tmp 41)], argTypes := #[22] } 19 #[.pointer (some ⟨b13, 0, none⟩)] (some 42) (by kernel_rfl) (by kernel_rfl) (by kernel_rfl) (issued_at b13 cap2 A2 _ (newX fs 10) _ hl2 hA2 hnn (by omega) (by rw [newX_len]; omega)) ?_
      rintro _ w84 ⟨rfl, hk85⟩
      refine ⟨_, rfl, ?_⟩
      have hsz86 := Keep.size hk85
      replace hl2 := hl2.keep hk85 (fun f => f)
      have hb13lt := hl2.lt
      replace hA := ArgT.keep0 hA hk85
      replace hA2 := SlT.keep0 hA2 hk85
      replace hK0 := Keep.tr hK0 (Keep.ofNone hk85); have hzhK0 := Keep.size hK0
      replace ho8 := Grd.keep ho8 hk85 (fun _ _ f => f)
      refine OI_static 3 [(4, .pointer (some ⟨b13, 0, none⟩)), (43, .bool (decide (tot (newX fs 10) > 1073741824)))] (by kernel_rfl) ?_
      refine OI_end rfl ?_
      refine X_then ?_
      refine V_if (tot (newX fs 10) > 1073741824) (by kernel_rfl) (fun hc87 => ?_) (fun hc87 => ?_)
      · skip
        refine V_seq ?_
        refine V_region ?_
        refine OI_static 2 [(2, .pointer none), (3, .int .i64 1)] (by kernel_rfl) ?_
        refine OI_end rfl ?_
        refine X_then ?_
        refine V_ret ?_
        refine X_ret_then ?_
        exact X_return _ rfl (.inr ⟨fun hh => by have := hh.2.2; omega, rfl, hK0⟩)
      · skip
        refine V_skip ?_
        refine X_then ?_
        refine V_seq ?_
        refine V_region ?_
        refine OI_static 3 [(2, .pointer (some ⟨b13, 0, none⟩)), (3, .int .i64 0)] (by kernel_rfl) ?_
        refine OI_end rfl ?_
        refine X_then ?_
        refine V_ret ?_
        exact X_return _ rfl (.inl ⟨⟨by omega, okF_all (by omega) hokf, by omega⟩, b13, fun q => w.heap.size ≤ q ∧ q < w84.heap.size, rfl, ⟨⟨newX_len _ _, newX_nn hokf, by omega⟩, ⟨by omega, by omega⟩, fun q hq => hq.2, g6, A2, cap2, F7, ⟨hl2, hA2⟩, ho8, fun q hq => ⟨⟨by have h1 := ow2 q hq; omega, by have h1 := lt2 q hq; omega⟩, by have h1 := ow2 q hq; omega⟩, fun q hq => ⟨⟨by have h1 := own11 q hq; omega, by have h1 := lt12 q hq; omega⟩, by have h1 := lt12 q hq; omega⟩, fun q h1 h2 => by have h3 := ow2 q h1; have h4 := lt12 q h2; omega⟩, hK0, fun q hq => hq.1⟩)
end Go.Al
