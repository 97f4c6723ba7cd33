/-
  Walks of the laws of grid: all cells.
-/
import Derived.Test.YtijhhcnahepdlaaGr8
namespace Go.Al
open Go Go.RowKit Go.Proofs
theorem told_row (F : Nat → Prop) (g : Nat) (cs : List Ci) (n : Int) (bg bs bn : Nat) (xs : List (Int × Int)) (w : World) (hxs : rowL n cs = xs) (h : Grd F w g cs) (h1 : Blk w bg [.pointer (some ⟨g, 0, none⟩)] 22) (h2 : Blk w bs [.int .i64 0] 3) (h3 : Blk w bn [.int .i64 n] 3) (hn : cs.length ≤ 1000) : Calls Try.prog 20 #[.func (.func 47) #[] #[.pointer (some ⟨bg, 0, none⟩), .pointer (some ⟨bs, 0, none⟩), .pointer (some ⟨bn, 0, none⟩)]] w fun e w' => ∃ Ak capk Av capv, e = .returned (.tuple #[.slice Ak xs.length capk, .slice Av xs.length capv, .bool true]) ∧ SlT w' 1 intc Ak capk (xs.map (·.1)) ∧ SlT w' 1 intc Av capv (xs.map (·.2)) ∧ Keep none_ w w' ∧ (∀ q, inA Ak q → w.heap.size ≤ q) ∧ (∀ q, inA Av q → w.heap.size ≤ q) := by
  subst hxs
  obtain ⟨_, _, _, _, A, cap, hat, _⟩ := h
  have hl : (rowL n cs).length ≤ 1000 := by unfold rowL; rw [List.length_map]; exact Nat.le_trans (List.length_filter_le _ _) hn
  exact told_spec 47 _ _ _ _ w (by kernel_rfl) (along1_iter0 bg bs bn g cap A cs n (by omega)) ⟨h1, hat, ⟨h2, h3, hat.sl⟩⟩ (fun W W' h k => ⟨h.1.quiet k, h.2.1.quiet k, h.2.2.quiet k⟩) (fun W k => AlOk.keep0 ⟨h2, h3, hat.sl⟩ k) hl

theorem told_col (F : Nat → Prop) (g : Nat) (cs : List Ci) (n : Int) (bg bs bn : Nat) (xs : List (Int × Int)) (w : World) (hxs : colL n cs = xs) (h : Grd F w g cs) (h1 : Blk w bg [.pointer (some ⟨g, 0, none⟩)] 22) (h2 : Blk w bs [.int .i64 1] 3) (h3 : Blk w bn [.int .i64 n] 3) (hn : cs.length ≤ 1000) : Calls Try.prog 20 #[.func (.func 47) #[] #[.pointer (some ⟨bg, 0, none⟩), .pointer (some ⟨bs, 0, none⟩), .pointer (some ⟨bn, 0, none⟩)]] w fun e w' => ∃ Ak capk Av capv, e = .returned (.tuple #[.slice Ak xs.length capk, .slice Av xs.length capv, .bool true]) ∧ SlT w' 1 intc Ak capk (xs.map (·.1)) ∧ SlT w' 1 intc Av capv (xs.map (·.2)) ∧ Keep none_ w w' ∧ (∀ q, inA Ak q → w.heap.size ≤ q) ∧ (∀ q, inA Av q → w.heap.size ≤ q) := by
  subst hxs
  obtain ⟨_, _, _, _, A, cap, hat, _⟩ := h
  have hl : (colL n cs).length ≤ 1000 := by unfold colL; rw [List.length_map]; exact Nat.le_trans (List.length_filter_le _ _) hn
  exact told_spec 47 _ _ _ _ w (by kernel_rfl) (along1_iter1 bg bs bn g cap A cs n (by omega)) ⟨h1, hat, ⟨h2, h3, hat.sl⟩⟩ (fun W W' h k => ⟨h.1.quiet k, h.2.1.quiet k, h.2.2.quiet k⟩) (fun W k => AlOk.keep0 ⟨h2, h3, hat.sl⟩ k) hl

theorem told_nil (bg bs bn : Nat) (s n : Int) (w : World) (h1 : Blk w bg [.pointer none] 22) : let xs : List (Int × Int) := []
  Calls Try.prog 20 #[.func (.func 47) #[] #[.pointer (some ⟨bg, 0, none⟩), .pointer (some ⟨bs, 0, none⟩), .pointer (some ⟨bn, 0, none⟩)]] w fun e w' => ∃ Ak capk Av capv, e = .returned (.tuple #[.slice Ak xs.length capk, .slice Av xs.length capv, .bool true]) ∧ SlT w' 1 intc Ak capk (xs.map (·.1)) ∧ SlT w' 1 intc Av capv (xs.map (·.2)) ∧ Keep none_ w w' ∧ (∀ q, inA Ak q → w.heap.size ≤ q) ∧ (∀ q, inA Av q → w.heap.size ≤ q) := by
  intro xs
  exact told_spec 47 _ _ _ _ w (by kernel_rfl) (along1_nil bg bs bn s (enc2 xs) n) ⟨h1, trivial⟩ (fun W W' h k => ⟨h.1.quiet k, trivial⟩) (fun W k => trivial) (by simp [xs])

set_option maxRecDepth 10000 in
theorem cells_spec (g cap : Nat) (A : Option Addr) (cs : List Ci) (w : World) (h : GrAt w g A cap cs) (hn : cs.length ≤ 1000) : Calls Try.prog 23 #[.pointer (some ⟨g, 0, none⟩)] w fun e w' => ∃ Ak capk, e = .returned (.tuple #[.slice Ak cs.length capk, .bool true]) ∧ SlT w' 3 Ci.cells Ak capk cs ∧ Keep none_ w w' ∧ (∀ q, inA Ak q → w.heap.size ≤ q) := by
  have hg := h.blk
  have hA := h.sl
  have hglt := hg.lt
  have hgA := h.off
  have hltA := SlT.lt hA
  have hK0 : Keep none_ w w := Keep.refl _ _
  have hzhK0 := Keep.size hK0
  refine enterM Try.func23 rfl [.pointer (some ⟨g, 0, none⟩)] 28 rfl rfl rfl ?_
  refine V_pick [(0, .pointer (some ⟨g, 0, none⟩))] rfl ?_
  refine V_seq ?_
  refine V_region ?_
  refine OI_alloc 47 (.slice none 0 0) [.slice none 0 0] (some 2) (by kernel_rfl) (by kernel_rfl) (by kernel_rfl) ?_
  intro b1 w1 e1 hb1 k1 z1
  have hsz2 := Keep.size k1
  replace hg := hg.keep k1 (fun f => f)
  have hglt := hg.lt
  replace hA := SlT.keep0 hA k1
  replace hK0 := Keep.tr hK0 (Keep.ofNone k1); have hzhK0 := Keep.size hK0
  have hb1lt := hb1.lt
  refine OI_alloc 4 (.bool false) [.bool false] (some 3) (by kernel_rfl) (by kernel_rfl) (by kernel_rfl) ?_
  intro b3 w3 e3 hb3 k3 z3
  have hsz4 := Keep.size k3
  replace hg := hg.keep k3 (fun f => f)
  have hglt := hg.lt
  replace hb1 := hb1.keep k3 (fun f => f)
  have hb1lt := hb1.lt
  replace hA := SlT.keep0 hA k3
  replace hK0 := Keep.tr hK0 (Keep.ofNone k3); have hzhK0 := Keep.size hK0
  have hb3lt := hb3.lt
  refine OI_end rfl ?_
  refine X_then ?_
  refine V_seq ?_
  refine V_region ?_
  refine OI_static 1 [(2, .pointer (some ⟨b1, 0, none⟩)), (3, .pointer (some ⟨b3, 0, none⟩)), (8, .pointer (some ⟨g, 0, none⟩))] (by kernel_rfl) ?_
  refine OI_call { callee := (Callee.value (Operand.func 40)), args := #[(Operand.tmp 8)], argTypes := #[22] } 40 #[.pointer (some ⟨g, 0, none⟩)] (some 9) (by kernel_rfl) (by kernel_rfl) (by kernel_rfl) (cellsfn_spec _ rfl _) ?_
  rintro _ w5 ⟨c7, rfl, hc7, hk6, hgec7⟩
  refine ⟨_, rfl, ?_⟩
  have hsz8 := Keep.size hk6
  replace hg := hg.keep hk6 (fun f => f)
  have hglt := hg.lt
  replace hb1 := hb1.keep hk6 (fun f => f)
  have hb1lt := hb1.lt
  replace hb3 := hb3.keep hk6 (fun f => f)
  have hb3lt := hb3.lt
  replace hA := SlT.keep0 hA hk6
  replace hK0 := Keep.tr hK0 (Keep.ofNone hk6); have hzhK0 := Keep.size hK0
  have hc7lt := hc7.lt
  refine OI_static 3 [(2, .pointer (some ⟨b1, 0, none⟩)), (3, .pointer (some ⟨b3, 0, none⟩)), (4, .func (.func 53) #[] #[.pointer (some ⟨c7, 0, none⟩)])] (by kernel_rfl) ?_
  refine OI_end rfl ?_
  refine X_then ?_
  refine V_seq ?_
  refine V_seq ?_
  refine V_region ?_
  refine OI_static 2 [(2, .pointer (some ⟨b1, 0, none⟩)), (3, .pointer (some ⟨b3, 0, none⟩)), (4, .func (.func 53) #[] #[.pointer (some ⟨c7, 0, none⟩)]), (11, .bool false)] (by kernel_rfl) ?_
  refine OI_end rfl ?_
  refine X_then ?_
  refine V_false rfl ?_
  refine V_skip ?_
  refine X_then ?_
  refine V_seq ?_
  refine V_region ?_
  refine OI_alloc 47 (.slice none 0 0) [.slice none 0 0] (some 5) (by kernel_rfl) (by kernel_rfl) (by kernel_rfl) ?_
  intro b9 w9 e9 hb9 k9 z9
  have hsz10 := Keep.size k9
  replace hg := hg.keep k9 (fun f => f)
  have hglt := hg.lt
  replace hb1 := hb1.keep k9 (fun f => f)
  have hb1lt := hb1.lt
  replace hb3 := hb3.keep k9 (fun f => f)
  have hb3lt := hb3.lt
  replace hc7 := hc7.keep k9 (fun f => f)
  have hc7lt := hc7.lt
  replace hA := SlT.keep0 hA k9
  replace hK0 := Keep.tr hK0 (Keep.ofNone k9); have hzhK0 := Keep.size hK0
  have hb9lt := hb9.lt
  refine OI_end rfl ?_
  refine X_then ?_
  refine V_seq ?_
  refine V_seq ?_
  refine V_region ?_
  refine OI_static 1 [(2, .pointer (some ⟨b1, 0, none⟩)), (3, .pointer (some ⟨b3, 0, none⟩)), (5, .pointer (some ⟨b9, 0, none⟩)), (12, .func (.func 53) #[] #[.pointer (some ⟨c7, 0, none⟩)])] (by kernel_rfl) ?_
  refine OI_end rfl ?_
  refine X_then ?_
  refine V_block ?_
  refine V_pick [(2, .pointer (some ⟨b1, 0, none⟩)), (3, .pointer (some ⟨b3, 0, none⟩)), (5, .pointer (some ⟨b9, 0, none⟩)), (12, .func (.func 53) #[] #[.pointer (some ⟨c7, 0, none⟩)])] rfl ?_
  have hN0 : w.heap.size ≤ w9.heap.size := hzhK0
  refine V_range2 (gf := 53) (caps := #[.pointer (some ⟨c7, 0, none⟩)]) (m := cs.length) (by kernel_rfl) (by kernel_rfl) (by kernel_rfl) ((cells1_iter c7 g cap A cs (by omega)).to2) (⟨hc7, ⟨hg, hA, hgA⟩⟩) (fun W W' h k => ⟨h.1.quiet k, h.2.quiet k⟩) (encC_size cs) (fun M1 k W => ∃ Ak : Option Addr, ∃ capk : Nat, (Blk W b1 [.slice none 0 0] 47) ∧ (Blk W b3 [.bool false] 4) ∧ (SlT W 3 Ci.cells A cap cs) ∧ (Keep none_ w W) ∧ (Blk W b9 [.slice Ak ((cs.take k).length) capk] 47) ∧ (SlT W 3 Ci.cells Ak capk (cs.take k)) ∧ (∀ q, inA Ak q → M1 ≤ q)) (fun M1 c k W => False) (fun M1 k W W' h hk => by obtain ⟨Ak, capk, jb1, jb3, jA, jhK0, jb9, jAk, ownk⟩ := h; exact ⟨Ak, capk, jb1.quiet hk, jb3.quiet hk, jA.quiet hk, jhK0.quiet hk (by omega), jb9.quiet hk, jAk.quiet hk, ownk⟩) (fun _ _ _ _ _ h _ => h.elim) (fun M1 hM1 => ⟨none, 0, hb1, hb3, hA, hK0, hb9, SlT.nil _ _ _, fun q h => (inA_none h).elim⟩) (fun M1 k W h => by obtain ⟨Ak, capk, jb1, jb3, jA, jhK0, jb9, jAk, ownk⟩ := h; exact jA) ?_ ?_ (fun _ _ _ _ _ _ _ _ h _ => h.elim)
  · skip
    intro lp D M1 k W hD hl hM hMW hkm ⟨Ak, capk, jb1, jb3, jA, jhK0, jb9, jAk, ownk⟩ ⟨rr, hrr⟩ hDD
    have hzjhK0 := Keep.size jhK0
    have hb1lt := jb1.lt
    have hb3lt := jb3.lt
    have hb9lt := jb9.lt
    have ltjA := SlT.lt jA
    have ltjAk := SlT.lt jAk
    obtain ⟨x, hx⟩ : ∃ x, cs[k]? = some x := ⟨_, List.getElem?_eq_getElem (by omega)⟩
    rw [encC_at hx]
    have hlk : (cs.take k).length = k := by simp; omega
    have hs1 : cs.take (k + 1) = cs.take k ++ [x] := by obtain ⟨h1, h2⟩ := List.getElem?_eq_some_iff.1 hx; rw [List.take_succ_eq_append_getElem h1, h2]
    refine V_pick [(2, .pointer (some ⟨b1, 0, none⟩)), (3, .pointer (some ⟨b3, 0, none⟩)), (5, .pointer (some ⟨b9, 0, none⟩)), (13, .agg #[.int .i64 x.a, .int .i64 x.b]), (14, .int .i64 x.v)] rfl ?_
    have hfen : Keep (fen w9.heap.size M1) W W := Keep.refl _ _
    have hzhfen := Keep.size hfen
    refine V_seq ?_
    refine V_region ?_
    refine OI_alloc 68 (.agg #[.int .i64 0, .int .i64 0]) [.int .i64 0, .int .i64 0] (some 6) (by kernel_rfl) (by kernel_rfl) (by kernel_rfl) ?_
    intro b11 w11 e11 hb11 k11 z11
    have hsz12 := Keep.size k11
    replace jb1 := jb1.keep k11 (fun f => f)
    have hb1lt := jb1.lt
    replace jb3 := jb3.keep k11 (fun f => f)
    have hb3lt := jb3.lt
    replace jb9 := jb9.keep k11 (fun f => f)
    have hb9lt := jb9.lt
    replace jA := SlT.keep0 jA k11
    replace jAk := SlT.keep0 jAk k11
    replace jhK0 := Keep.tr jhK0 (Keep.ofNone k11); have hzjhK0 := Keep.size jhK0
    replace hfen := Keep.tr hfen (Keep.ofNone k11); have hzhfen := Keep.size hfen
    have hb11lt := hb11.lt
    refine OI_set (m := 2) (kd := true) 68 (.tmp 6) (.tmp 13) 0 (.agg #[.int .i64 x.a, .int .i64 x.b]) [.int .i64 x.a, .int .i64 x.b] none (by kernel_rfl) (by kernel_rfl) (by kernel_rfl) hb11 (by kernel_rfl) (by kernel_rfl) (by kernel_rfl) (Nat.le_of_ble_eq_true (by kernel_rfl)) (by simp [Value.oneCell']) ?_
    intro w13 hb11_16 hk14 hz15
    replace hb11_16 : Blk w13 b11 [.int .i64 x.a, .int .i64 x.b] 68 := hb11_16
    have hsz17 := Keep.size hk14
    replace jb1 := jb1.keep hk14 (by show ¬ (_ = _); omega)
    have hb1lt := jb1.lt
    replace jb3 := jb3.keep hk14 (by show ¬ (_ = _); omega)
    have hb3lt := jb3.lt
    replace jb9 := jb9.keep hk14 (by show ¬ (_ = _); omega)
    have hb9lt := jb9.lt
    replace jA := SlT.keep jA hk14 (fun q hq hs => by have h1 := hltA q hq; have hs : q = b11 := hs; omega)
    replace jAk := SlT.keep jAk hk14 (fun q hq hs => by have hs : q = b11 := hs; have g0 := ownk q hq; have g1 := ltjAk q hq; omega)
    replace jhK0 := Keep.fresh jhK0 hk14 (by intro i hi hs; first | exact hs | exact Or.inl hs | exact Or.inr hs | (exfalso; have hs2 : i = b11 := hs; omega)); have hzjhK0 := Keep.size jhK0
    replace hfen := Keep.fresh hfen hk14 (by intro i hi hs; have hs2 : i = b11 := hs; show _ ∨ _; omega); have hzhfen := Keep.size hfen
    refine OI_end rfl ?_
    refine X_then ?_
    refine V_region ?_
    refine OI_static 1 [(2, .pointer (some ⟨b1, 0, none⟩)), (3, .pointer (some ⟨b3, 0, none⟩)), (5, .pointer (some ⟨b9, 0, none⟩)), (6, .pointer (some ⟨b11, 0, none⟩)), (7, .int .i64 x.v)] (by kernel_rfl) ?_
    refine OI_end rfl ?_
    refine X_begin2 hfen ?_
    intro W2 hk2 ⟨r2, hr2⟩ hD2
    have hsz18 := Keep.size hk2
    replace jb1 := Blk.quiet jb1 hk2
    have hb1lt := jb1.lt
    replace jb3 := Blk.quiet jb3 hk2
    have hb3lt := jb3.lt
    replace jb9 := Blk.quiet jb9 hk2
    have hb9lt := jb9.lt
    replace hb11_16 := Blk.quiet hb11_16 hk2
    have hb11lt := hb11_16.lt
    replace jA := SlT.quiet jA hk2
    replace jAk := SlT.quiet jAk hk2
    replace jhK0 := Keep.quiet jhK0 hk2 (by omega); have hzjhK0 := Keep.size jhK0
    have hzhk2 := Keep.size hk2
    have hfenb : Keep (fen w9.heap.size M1) W2 W2 := Keep.refl _ _
    have hzhfenb := Keep.size hfenb
    refine V_block ?_
    refine V_seq ?_
    refine V_region ?_
    refine OI_cell 47 (.tmp 5) 0 (.slice Ak ((cs.take k).length) capk) (some 15) (by kernel_rfl) (by kernel_rfl) jb9 (m := 1) (by kernel_rfl) rfl ?_
    refine OI_static 2 [(2, .pointer (some ⟨b1, 0, none⟩)), (3, .pointer (some ⟨b3, 0, none⟩)), (5, .pointer (some ⟨b9, 0, none⟩)), (6, .pointer (some ⟨b11, 0, none⟩)), (7, .int .i64 x.v), (15, .slice Ak ((cs.take k).length) capk), (16, .pointer (some ⟨b11, 0, none⟩))] (by kernel_rfl) ?_
    refine OI_cell 3 (.tmp 16) 0 (.int .i64 x.a) (some 17) (by kernel_rfl) (by kernel_rfl) hb11_16 (m := 1) (by kernel_rfl) rfl ?_
    refine OI_static 4 [(2, .pointer (some ⟨b1, 0, none⟩)), (3, .pointer (some ⟨b3, 0, none⟩)), (5, .pointer (some ⟨b9, 0, none⟩)), (7, .int .i64 x.v), (15, .slice Ak ((cs.take k).length) capk), (17, .int .i64 x.a), (18, .pointer (some ⟨b11, 1, none⟩))] (by kernel_rfl) ?_
    refine OI_cell 3 (.tmp 18) 1 (.int .i64 x.b) (some 19) (by kernel_rfl) (by kernel_rfl) hb11_16 (m := 1) (by kernel_rfl) rfl ?_
    refine OI_static 7 [(2, .pointer (some ⟨b1, 0, none⟩)), (3, .pointer (some ⟨b3, 0, none⟩)), (5, .pointer (some ⟨b9, 0, none⟩)), (15, .slice Ak ((cs.take k).length) capk), (21, .agg #[.int .i64 x.a, .int .i64 x.b, .int .i64 x.v])] (by kernel_rfl) ?_
    refine OI_slit (E := 59) (zv := .agg #[.int .i64 0, .int .i64 0, .int .i64 0]) (sz := 3) (by_ := 24) 47 1 #[(0, (Operand.tmp 21))] [.agg #[.int .i64 x.a, .int .i64 x.b, .int .i64 x.v]] [.int .i64 x.a, .int .i64 x.b, .int .i64 x.v] (some 22) (by kernel_rfl) (by kernel_rfl) (by kernel_rfl) (by omega) rfl (by omega) (by intro v hv; simp only [List.mem_cons, List.not_mem_nil, or_false] at hv; rcases hv with rfl <;> rfl) (by kernel_rfl) rfl ?_
    intro b19 w19 e19 hb19 k19 z19
    have hsz20 := Keep.size k19
    replace jb1 := jb1.keep k19 (fun f => f)
    have hb1lt := jb1.lt
    replace jb3 := jb3.keep k19 (fun f => f)
    have hb3lt := jb3.lt
    replace jb9 := jb9.keep k19 (fun f => f)
    have hb9lt := jb9.lt
    replace hb11_16 := hb11_16.keep k19 (fun f => f)
    have hb11lt := hb11_16.lt
    replace jA := SlT.keep0 jA k19
    replace jAk := SlT.keep0 jAk k19
    replace jhK0 := Keep.tr jhK0 (Keep.ofNone k19); have hzjhK0 := Keep.size jhK0
    replace hfenb := Keep.tr hfenb (Keep.ofNone k19); have hzhfenb := Keep.size hfenb
    have hb19lt := hb19.lt
    refine OI_append (t := 47) (at2 := 47) (E := 59) (E2 := 59) (sz := 3) (by_ := 24) (zv := .agg #[.int .i64 0, .int .i64 0, .int .i64 0]) (m := (cs.take k).length) (k := 1) (.tmp 15) (.tmp 22) (.slice Ak ((cs.take k).length) capk) (.slice (some ⟨b19, 0, none⟩) 1 1) (some 23) (by kernel_rfl) (by kernel_rfl) (by kernel_rfl) (by kernel_rfl) (by kernel_rfl) (by kernel_rfl) (by kernel_rfl) (SlT.slr jAk) (slr_one hb19 (Ci.len x)) (Ci.one x) (by first | omega | (simp only [List.length_nil]; omega)) (by omega) (by first | omega | (simp only [List.length_nil]; omega)) (by omega) ?_
    intro vv9 w21 hap
    obtain ⟨A21, cap21, rfl, hA21, hk21, own21x⟩ := app_one (f := Ci.cells) (xs := (cs.take k)) (x := x) (A := Ak) (cap := capk) hap (fun x _ => Ci.len x) (Ci.len _)
    have own21 : ∀ q, inA A21 q → M1 ≤ q := fun q hq => by rcases own21x q hq with h | h; exact ownk q h; (show M1 ≤ q; omega)
    have hsz22 := Keep.size hk21
    replace jb1 := jb1.keep hk21 (fun hs => by have h1 := ownk _ hs; have h2 := ltjAk _ hs; omega)
    have hb1lt := jb1.lt
    replace jb3 := jb3.keep hk21 (fun hs => by have h1 := ownk _ hs; have h2 := ltjAk _ hs; omega)
    have hb3lt := jb3.lt
    replace jb9 := jb9.keep hk21 (fun hs => by have h1 := ownk _ hs; have h2 := ltjAk _ hs; omega)
    have hb9lt := jb9.lt
    replace hb11_16 := hb11_16.keep hk21 (fun hs => by have h1 := ownk _ hs; have h2 := ltjAk _ hs; omega)
    have hb11lt := hb11_16.lt
    replace jA := SlT.keep jA hk21 (fun q hq hs => by have h1 := hltA q hq; have h1 := ownk q hs; have h2 := ltjAk q hs; omega)
    replace jhK0 := Keep.fresh jhK0 hk21 (by intro i hi hs; first | exact hs | (exfalso; have h1 := ownk i hs; have h2 := ltjAk i hs; omega) | (have h1 := ownk i hs; have h2 := ltjAk i hs; show _ ∨ _; omega)); have hzjhK0 := Keep.size jhK0
    replace hfenb := Keep.fresh hfenb hk21 (by intro i hi hs; have h1 := ownk i hs; have h2 := ltjAk i hs; show _ ∨ _; omega); have hzhfenb := Keep.size hfenb
    have lt21 := SlT.lt hA21
    refine OI_set (m := 1) (kd := false) 47 (.tmp 5) (.tmp 23) 0 (.slice A21 (((cs.take k) ++ [x]).length) cap21) [.slice A21 (((cs.take k) ++ [x]).length) cap21] none (by kernel_rfl) (by kernel_rfl) (by kernel_rfl) jb9 (by kernel_rfl) (by kernel_rfl) (by kernel_rfl) (Nat.le_of_ble_eq_true (by kernel_rfl)) (by simp [Value.oneCell']) ?_
    intro w23 hb9_26 hk24 hz25
    replace hb9_26 : Blk w23 b9 [.slice A21 (((cs.take k) ++ [x]).length) cap21] 47 := hb9_26
    have hsz27 := Keep.size hk24
    replace jb1 := jb1.keep hk24 (by show ¬ (_ = _); omega)
    have hb1lt := jb1.lt
    replace jb3 := jb3.keep hk24 (by show ¬ (_ = _); omega)
    have hb3lt := jb3.lt
    replace hb11_16 := hb11_16.keep hk24 (by show ¬ (_ = _); omega)
    have hb11lt := hb11_16.lt
    replace jA := SlT.keep jA hk24 (fun q hq hs => by have h1 := hltA q hq; have hs : q = b9 := hs; omega)
    replace hA21 := SlT.keep hA21 hk24 (fun q hq hs => by have hs : q = b9 := hs; have g0 := own21 q hq; have g1 := lt21 q hq; omega)
    replace jhK0 := Keep.fresh jhK0 hk24 (by intro i hi hs; first | exact hs | exact Or.inl hs | exact Or.inr hs | (exfalso; have hs2 : i = b9 := hs; omega)); have hzjhK0 := Keep.size jhK0
    replace hfenb := Keep.fresh hfenb hk24 (by intro i hi hs; have hs2 : i = b9 := hs; show _ ∨ _; omega); have hzhfenb := Keep.size hfenb
    refine OI_end rfl ?_
    refine X_then ?_
    refine V_seq ?_
    refine V_region ?_
    refine OI_cell 47 (.tmp 5) 0 (.slice A21 (((cs.take k) ++ [x]).length) cap21) (some 24) (by kernel_rfl) (by kernel_rfl) hb9_26 (m := 1) (by kernel_rfl) rfl ?_
    refine OI_static 3 [(2, .pointer (some ⟨b1, 0, none⟩)), (3, .pointer (some ⟨b3, 0, none⟩)), (26, .bool (decide (((((cs.take k) ++ [x]).length : Nat) : Int) > 1000)))] (by kernel_rfl) ?_
    refine OI_end rfl ?_
    refine X_then ?_
    refine V_if (((((cs.take k) ++ [x]).length : Nat) : Int) > 1000) (by kernel_rfl) (fun hc28 => ?_) (fun hc28 => ?_)
    · skip
      exact (by simp only [List.length_append, List.length_cons, List.length_nil] at hc28; omega : False).elim
    · skip
      refine V_skip ?_
      refine X_block ?_
      exact fun a _ => ⟨hfenb, A21, cap21, jb1, jb3, jA, jhK0, by rw [hs1]; exact hb9_26, by rw [hs1]; exact hA21, own21⟩
  · skip
    intro D M1 W hD hM ⟨Ak, capk, jb1, jb3, jA, jhK0, jb9, jAk, ownk⟩ hDD
    have hzjhK0 := Keep.size jhK0
    have hb1lt := jb1.lt
    have hb3lt := jb3.lt
    have hb9lt := jb9.lt
    have ltjA := SlT.lt jA
    have ltjAk := SlT.lt jAk
    rw [List.take_length] at jAk jb9
    refine X_block ?_
    refine X_then ?_
    refine V_seq ?_
    refine V_region ?_
    refine OI_cell 47 (.tmp 5) 0 (.slice Ak cs.length capk) (some 27) (by kernel_rfl) (by kernel_rfl) jb9 (m := 1) (by kernel_rfl) rfl ?_
    refine OI_set (m := 1) (kd := false) 47 (.tmp 2) (.tmp 27) 0 (.slice Ak cs.length capk) [.slice Ak cs.length capk] none (by kernel_rfl) (by kernel_rfl) (by kernel_rfl) jb1 (by kernel_rfl) (by kernel_rfl) (by kernel_rfl) (Nat.le_of_ble_eq_true (by kernel_rfl)) (by simp [Value.oneCell']) ?_
    intro w29 hb1_32 hk30 hz31
    replace hb1_32 : Blk w29 b1 [.slice Ak cs.length capk] 47 := hb1_32
    have hsz33 := Keep.size hk30
    replace jb3 := jb3.keep hk30 (by show ¬ (_ = _); omega)
    have hb3lt := jb3.lt
    replace jb9 := jb9.keep hk30 (by show ¬ (_ = _); omega)
    have hb9lt := jb9.lt
    replace jA := SlT.keep jA hk30 (fun q hq hs => by have h1 := hltA q hq; have hs : q = b1 := hs; omega)
    replace jAk := SlT.keep jAk hk30 (fun q hq hs => by have hs : q = b1 := hs; have g0 := ownk q hq; have g1 := ltjAk q hq; omega)
    replace jhK0 := Keep.fresh jhK0 hk30 (by intro i hi hs; first | exact hs | exact Or.inl hs | exact Or.inr hs | (exfalso; have hs2 : i = b1 := hs; omega)); have hzjhK0 := Keep.size jhK0
    replace hDD := (Keep.block hk30 _ (Array.getElem?_eq_some_iff.1 hDD).1 (by show ¬ (_ = _); omega)).trans hDD
    refine OI_set (m := 1) (kd := false) 4 (.tmp 3) (.const (Value.bool true)) 0 (.bool true) [.bool true] none (by kernel_rfl) (by kernel_rfl) (by kernel_rfl) jb3 (by kernel_rfl) (by kernel_rfl) (by kernel_rfl) (Nat.le_of_ble_eq_true (by kernel_rfl)) (by simp [Value.oneCell']) ?_
    intro w34 hb3_37 hk35 hz36
    replace hb3_37 : Blk w34 b3 [.bool true] 4 := hb3_37
    have hsz38 := Keep.size hk35
    replace hb1_32 := hb1_32.keep hk35 (by show ¬ (_ = _); omega)
    have hb1lt := hb1_32.lt
    replace jb9 := jb9.keep hk35 (by show ¬ (_ = _); omega)
    have hb9lt := jb9.lt
    replace jA := SlT.keep jA hk35 (fun q hq hs => by have h1 := hltA q hq; have hs : q = b3 := hs; omega)
    replace jAk := SlT.keep jAk hk35 (fun q hq hs => by have hs : q = b3 := hs; have g0 := ownk q hq; have g1 := ltjAk q hq; omega)
    replace jhK0 := Keep.fresh jhK0 hk35 (by intro i hi hs; first | exact hs | exact Or.inl hs | exact Or.inr hs | (exfalso; have hs2 : i = b3 := hs; omega)); have hzjhK0 := Keep.size jhK0
    replace hDD := (Keep.block hk35 _ (Array.getElem?_eq_some_iff.1 hDD).1 (by show ¬ (_ = _); omega)).trans hDD
    refine OI_end rfl ?_
    refine X_then ?_
    refine V_ret ?_
    exact leave1 (.tuple #[.slice Ak cs.length capk, .bool true]) (.inl rfl) hDD (fun w' hk => ⟨res_cells2 (n1 := 1) (n2 := 1) rfl rfl rfl (by kernel_rfl) (by kernel_rfl) (Blk.quiet hb1_32 hk) (Blk.quiet hb3_37 hk), ⟨Ak, capk, rfl, SlT.quiet jAk hk, Keep.quiet jhK0 hk (by omega), fun q h => (by have := ownk q h; omega)⟩⟩)

theorem cells_nil (w : World) : Calls Try.prog 23 #[.pointer none] w fun e w' => e = .returned (.tuple #[.slice none 0 0, .bool true]) ∧ Keep none_ w w' := by
  have hK0 : Keep none_ w w := Keep.refl _ _
  have hzhK0 := Keep.size hK0
  refine enterM Try.func23 rfl [.pointer none] 28 rfl rfl rfl ?_
  refine V_pick [(0, .pointer none)] rfl ?_
  refine V_seq ?_
  refine V_region ?_
  refine OI_alloc 47 (.slice none 0 0) [.slice none 0 0] (some 2) (by kernel_rfl) (by kernel_rfl) (by kernel_rfl) ?_
  intro b1 w1 e1 hb1 k1 z1
  have hsz2 := Keep.size k1
  replace hK0 := Keep.tr hK0 (Keep.ofNone k1); have hzhK0 := Keep.size hK0
  have hb1lt := hb1.lt
  refine OI_alloc 4 (.bool false) [.bool false] (some 3) (by kernel_rfl) (by kernel_rfl) (by kernel_rfl) ?_
  intro b3 w3 e3 hb3 k3 z3
  have hsz4 := Keep.size k3
  replace hb1 := hb1.keep k3 (fun f => f)
  have hb1lt := hb1.lt
  replace hK0 := Keep.tr hK0 (Keep.ofNone k3); have hzhK0 := Keep.size hK0
  have hb3lt := hb3.lt
  refine OI_end rfl ?_
  refine X_then ?_
  refine V_seq ?_
  refine V_region ?_
  refine OI_static 1 [(2, .pointer (some ⟨b1, 0, none⟩)), (3, .pointer (some ⟨b3, 0, none⟩)), (8, .pointer none)] (by kernel_rfl) ?_
  refine OI_call { callee := (Callee.value (Operand.func 40)), args := #[(Operand.tmp 8)], argTypes := #[22] } 40 #[.pointer none] (some 9) (by kernel_rfl) (by kernel_rfl) (by kernel_rfl) (cellsfn_spec _ rfl _) ?_
  rintro _ w5 ⟨c7, rfl, hc7, hk6, hgec7⟩
  refine ⟨_, rfl, ?_⟩
  have hsz8 := Keep.size hk6
  replace hb1 := hb1.keep hk6 (fun f => f)
  have hb1lt := hb1.lt
  replace hb3 := hb3.keep hk6 (fun f => f)
  have hb3lt := hb3.lt
  replace hK0 := Keep.tr hK0 (Keep.ofNone hk6); have hzhK0 := Keep.size hK0
  have hc7lt := hc7.lt
  refine OI_static 3 [(2, .pointer (some ⟨b1, 0, none⟩)), (3, .pointer (some ⟨b3, 0, none⟩)), (4, .func (.func 53) #[] #[.pointer (some ⟨c7, 0, none⟩)])] (by kernel_rfl) ?_
  refine OI_end rfl ?_
  refine X_then ?_
  refine V_seq ?_
  refine V_seq ?_
  refine V_region ?_
  refine OI_static 2 [(2, .pointer (some ⟨b1, 0, none⟩)), (3, .pointer (some ⟨b3, 0, none⟩)), (4, .func (.func 53) #[] #[.pointer (some ⟨c7, 0, none⟩)]), (11, .bool false)] (by kernel_rfl) ?_
  refine OI_end rfl ?_
  refine X_then ?_
  refine V_false rfl ?_
  refine V_skip ?_
  refine X_then ?_
  refine V_seq ?_
  refine V_region ?_
  refine OI_alloc 47 (.slice none 0 0) [.slice none 0 0] (some 5) (by kernel_rfl) (by kernel_rfl) (by kernel_rfl) ?_
  intro b9 w9 e9 hb9 k9 z9
  have hsz10 := Keep.size k9
  replace hb1 := hb1.keep k9 (fun f => f)
  have hb1lt := hb1.lt
  replace hb3 := hb3.keep k9 (fun f => f)
  have hb3lt := hb3.lt
  replace hc7 := hc7.keep k9 (fun f => f)
  have hc7lt := hc7.lt
  replace hK0 := Keep.tr hK0 (Keep.ofNone k9); have hzhK0 := Keep.size hK0
  have hb9lt := hb9.lt
  refine OI_end rfl ?_
  refine X_then ?_
  refine V_seq ?_
  refine V_seq ?_
  refine V_region ?_
  refine OI_static 1 [(2, .pointer (some ⟨b1, 0, none⟩)), (3, .pointer (some ⟨b3, 0, none⟩)), (5, .pointer (some ⟨b9, 0, none⟩)), (12, .func (.func 53) #[] #[.pointer (some ⟨c7, 0, none⟩)])] (by kernel_rfl) ?_
  refine OI_end rfl ?_
  refine X_then ?_
  refine V_block ?_
  refine V_pick [(2, .pointer (some ⟨b1, 0, none⟩)), (3, .pointer (some ⟨b3, 0, none⟩)), (5, .pointer (some ⟨b9, 0, none⟩)), (12, .func (.func 53) #[] #[.pointer (some ⟨c7, 0, none⟩)])] rfl ?_
  have hN0 : w.heap.size ≤ w9.heap.size := hzhK0
  refine V_range2 (gf := 53) (caps := #[.pointer (some ⟨c7, 0, none⟩)]) (m := 0) (by kernel_rfl) (by kernel_rfl) (by kernel_rfl) ((cells1_nil c7 (fun _ => #[undef, undef])).to2) hc7 (fun W W' h k => Blk.quiet h k) (fun _ => rfl) (fun M1 k W => (Blk W b1 [.slice none 0 0] 47) ∧ (Blk W b3 [.bool false] 4) ∧ (Blk W b9 [.slice none 0 0] 47) ∧ (Keep none_ w W)) (fun M1 c k W => False) (fun M1 k W W' h hk => by obtain ⟨jb1, jb3, jb9, jhK0⟩ := h; exact ⟨jb1.quiet hk, jb3.quiet hk, jb9.quiet hk, jhK0.quiet hk (by omega)⟩) (fun _ _ _ _ _ h _ => h.elim) (fun M1 hM1 => ⟨hb1, hb3, hb9, hK0⟩) (fun M1 k W h => by obtain ⟨jb1, jb3, jb9, jhK0⟩ := h; exact trivial) ?_ ?_ (fun _ _ _ _ _ _ _ _ h _ => h.elim)
  · skip
    intro lp D M1 k W hD hl hM hMW hkm ⟨jb1, jb3, jb9, jhK0⟩ ⟨rr, hrr⟩ hDD
    exact absurd hkm (Nat.not_lt_zero _)
  · skip
    intro D M1 W hD hM ⟨jb1, jb3, jb9, jhK0⟩ hDD
    have hzjhK0 := Keep.size jhK0
    have hb1lt := jb1.lt
    have hb3lt := jb3.lt
    have hb9lt := jb9.lt
    refine X_block ?_
    refine X_then ?_
    refine V_seq ?_
    refine V_region ?_
    refine OI_cell 47 (.tmp 5) 0 (.slice none 0 0) (some 27) (by kernel_rfl) (by kernel_rfl) jb9 (m := 1) (by kernel_rfl) rfl ?_
    refine OI_set (m := 1) (kd := false) 47 (.tmp 2) (.tmp 27) 0 (.slice none 0 0) [.slice none 0 0] none (by kernel_rfl) (by kernel_rfl) (by kernel_rfl) jb1 (by kernel_rfl) (by kernel_rfl) (by kernel_rfl) (Nat.le_of_ble_eq_true (by kernel_rfl)) (by simp [Value.oneCell']) ?_
    intro w11 hb1_14 hk12 hz13
    replace hb1_14 : Blk w11 b1 [.slice none 0 0] 47 := hb1_14
    have hsz15 := Keep.size hk12
    replace jb3 := jb3.keep hk12 (by show ¬ (_ = _); omega)
    have hb3lt := jb3.lt
    replace jb9 := jb9.keep hk12 (by show ¬ (_ = _); omega)
    have hb9lt := jb9.lt
    replace jhK0 := Keep.fresh jhK0 hk12 (by intro i hi hs; first | exact hs | exact Or.inl hs | exact Or.inr hs | (exfalso; have hs2 : i = b1 := hs; omega)); have hzjhK0 := Keep.size jhK0
    replace hDD := (Keep.block hk12 _ (Array.getElem?_eq_some_iff.1 hDD).1 (by show ¬ (_ = _); omega)).trans hDD
    refine OI_set (m := 1) (kd := false) 4 (.tmp 3) (.const (Value.bool true)) 0 (.bool true) [.bool true] none (by kernel_rfl) (by kernel_rfl) (by kernel_rfl) jb3 (by kernel_rfl) (by kernel_rfl) (by kernel_rfl) (Nat.le_of_ble_eq_true (by kernel_rfl)) (by simp [Value.oneCell']) ?_
    intro w16 hb3_19 hk17 hz18
    replace hb3_19 : Blk w16 b3 [.bool true] 4 := hb3_19
    have hsz20 := Keep.size hk17
    replace hb1_14 := hb1_14.keep hk17 (by show ¬ (_ = _); omega)
    have hb1lt := hb1_14.lt
    replace jb9 := jb9.keep hk17 (by show ¬ (_ = _); omega)
    have hb9lt := jb9.lt
    replace jhK0 := Keep.fresh jhK0 hk17 (by intro i hi hs; first | exact hs | exact Or.inl hs | exact Or.inr hs | (exfalso; have hs2 : i = b3 := hs; omega)); have hzjhK0 := Keep.size jhK0
    replace hDD := (Keep.block hk17 _ (Array.getElem?_eq_some_iff.1 hDD).1 (by show ¬ (_ = _); omega)).trans hDD
    refine OI_end rfl ?_
    refine X_then ?_
    refine V_ret ?_
    exact leave1 (.tuple #[.slice none 0 0, .bool true]) (.inl rfl) hDD (fun w' hk => ⟨res_cells2 (n1 := 1) (n2 := 1) rfl rfl rfl (by kernel_rfl) (by kernel_rfl) (Blk.quiet hb1_14 hk) (Blk.quiet hb3_19 hk), ⟨rfl, Keep.quiet jhK0 hk (by omega)⟩⟩)
end Go.Al
