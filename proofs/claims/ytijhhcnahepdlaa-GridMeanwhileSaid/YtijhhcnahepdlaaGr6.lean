/-
  Walks of package grid: a row, a column.
-/
import Derived.Test.YtijhhcnahepdlaaGr5
import Derived.Test.YtijhhcnahepdlaaIt
namespace Go.Al
open Go Go.RowKit Go.Proofs
/-! ### A row, a column -/
def rowL (n : Int) (cs : List Ci) : List (Int × Int) := (cs.filter fun c => c.a == n).map fun c => (c.b, c.v)
def colL (n : Int) (cs : List Ci) : List (Int × Int) := (cs.filter fun c => c.b == n).map fun c => (c.a, c.v)
def enc2 (xs : List (Int × Int)) (k : Nat) : Array Value := match xs[k]? with | some p => #[.int .i64 p.1, .int .i64 p.2] | none => #[undef, undef]
theorem enc2_at {xs : List (Int × Int)} {k : Nat} {p : Int × Int} (h : xs[k]? = some p) : enc2 xs k = #[.int .i64 p.1, .int .i64 p.2] := by unfold enc2; rw [h]
theorem enc2_size (xs : List (Int × Int)) (k : Nat) : (enc2 xs k).size = 2 := by unfold enc2; split <;> rfl
theorem fm_step {α β : Type} (p : α → Bool) (f : α → β) {cs : List α} {k : Nat} {c : α} (h : cs[k]? = some c) : ((cs.take (k + 1)).filter p).map f = if p c then ((cs.take k).filter p).map f ++ [f c] else ((cs.take k).filter p).map f := by
  obtain ⟨h1, rfl⟩ := List.getElem?_eq_some_iff.1 h
  rw [List.take_succ_eq_append_getElem h1, List.filter_append, List.map_append]
  by_cases hp : p cs[k] = true <;> simp [hp]
theorem fm_at {α β : Type} (p : α → Bool) (f : α → β) {cs : List α} {k : Nat} {c : α} (h : cs[k]? = some c) (hp : p c = true) : (((cs.filter p).map f)[(((cs.take k).filter p).map f).length]? = some (f c)) ∧ (((cs.take k).filter p).map f).length < ((cs.filter p).map f).length := by
  have h2 := fm_step p f h
  rw [if_pos hp] at h2
  have h3 : (cs.filter p).map f = (((cs.take k).filter p).map f ++ [f c]) ++ ((cs.drop (k + 1)).filter p).map f := by
    rw [← h2, ← List.map_append, ← List.filter_append, List.take_append_drop]
  rw [h3]
  exact ⟨by simp, by simp⟩
theorem rowL_step {n : Int} {cs : List Ci} {k : Nat} {c : Ci} (h : cs[k]? = some c) : rowL n (cs.take (k + 1)) = if c.a = n then rowL n (cs.take k) ++ [(c.b, c.v)] else rowL n (cs.take k) := by
  have := fm_step (fun c : Ci => c.a == n) (fun c => (c.b, c.v)) h
  simpa [rowL] using this
theorem rowL_at {n : Int} {cs : List Ci} {k : Nat} {c : Ci} (h : cs[k]? = some c) (hc : c.a = n) : (rowL n cs)[(rowL n (cs.take k)).length]? = some (c.b, c.v) ∧ (rowL n (cs.take k)).length < (rowL n cs).length := fm_at (fun c : Ci => c.a == n) (fun c => (c.b, c.v)) h (by simp [hc])
theorem colL_step {n : Int} {cs : List Ci} {k : Nat} {c : Ci} (h : cs[k]? = some c) : colL n (cs.take (k + 1)) = if c.b = n then colL n (cs.take k) ++ [(c.a, c.v)] else colL n (cs.take k) := by
  have := fm_step (fun c : Ci => c.b == n) (fun c => (c.a, c.v)) h
  simpa [colL] using this
theorem colL_at {n : Int} {cs : List Ci} {k : Nat} {c : Ci} (h : cs[k]? = some c) (hc : c.b = n) : (colL n cs)[(colL n (cs.take k)).length]? = some (c.a, c.v) ∧ (colL n (cs.take k)).length < (colL n cs).length := fm_at (fun c : Ci => c.b == n) (fun c => (c.a, c.v)) h (by simp [hc])
/-- What a way along needs of the world while it goes on. -/
structure AlOk (bs bn : Nat) (s n : Int) (A : Option Addr) (cap : Nat) (cs : List Ci) (W : World) : Prop where
  side : Blk W bs [.int .i64 s] 3
  num : Blk W bn [.int .i64 n] 3
  sl : SlT W 3 Ci.cells A cap cs
theorem AlOk.quiet {N bs bn : Nat} {s n : Int} {A : Option Addr} {cap : Nat} {cs : List Ci} {W W' : World} (h : AlOk bs bn s n A cap cs W) (k : Keep (lb N W) W W') : AlOk bs bn s n A cap cs W' := ⟨h.1.quiet k, h.2.quiet k, h.3.quiet k⟩
theorem AlOk.keep0 {bs bn : Nat} {s n : Int} {A : Option Addr} {cap : Nat} {cs : List Ci} {W W' : World} (h : AlOk bs bn s n A cap cs W) (k : Keep none_ W W') : AlOk bs bn s n A cap cs W' := ⟨h.1.keep k (fun f => f), h.2.keep k (fun f => f), h.3.keep0 k⟩
theorem GrAt.quiet {N g cap : Nat} {A : Option Addr} {cs : List Ci} {W W' : World} (h : GrAt W g A cap cs) (k : Keep (lb N W) W W') : GrAt W' g A cap cs := ⟨h.blk.quiet k, h.sl.quiet k, h.off⟩
theorem GrAt.keep0 {g cap : Nat} {A : Option Addr} {cs : List Ci} {W W' : World} (h : GrAt W g A cap cs) (k : Keep none_ W W') : GrAt W' g A cap cs := ⟨h.blk.keep k (fun f => f), h.sl.keep0 k, h.off⟩

theorem along1_iter0 (bg bs bn g cap : Nat) (A : Option Addr) (cs : List Ci) (n : Int) (hn : cs.length ≤ 1000000) : Iter2 Try.prog 47 #[.pointer (some ⟨bg, 0, none⟩), .pointer (some ⟨bs, 0, none⟩), .pointer (some ⟨bn, 0, none⟩)] (rowL n cs).length (enc2 (rowL n cs)) (fun W => Blk W bg [.pointer (some ⟨g, 0, none⟩)] 22 ∧ GrAt W g A cap cs ∧ AlOk bs bn 0 n A cap cs W) (AlOk bs bn 0 n A cap cs) := by
  intro l J Jx w hPre hJ hJx hY hOk h0
  obtain ⟨hbg, h, ho⟩ := hPre
  have hbs := ho.side
  have hbn := ho.num
  have hg := h.blk
  have hA := h.sl
  have hglt := hg.lt
  have hgA := h.off
  have hbslt := hbs.lt
  have hbnlt := hbn.lt
  have hbglt := hbg.lt
  show Calls Try.prog 47 #[.func (.yield l) #[] #[], .pointer (some ⟨bg, 0, none⟩), .pointer (some ⟨bs, 0, none⟩), .pointer (some ⟨bn, 0, none⟩)] w _
  have hK0 : Keep none_ w w := Keep.refl _ _
  have hzhK0 := Keep.size hK0
  refine enterM Try.func47 rfl [.func (.yield l) #[] #[], .pointer (some ⟨bg, 0, none⟩), .pointer (some ⟨bs, 0, none⟩), .pointer (some ⟨bn, 0, none⟩)] 26 rfl rfl rfl ?_
  refine V_pick [(0, .func (.yield l) #[] #[]), (1, .pointer (some ⟨bg, 0, none⟩)), (2, .pointer (some ⟨bs, 0, none⟩)), (3, .pointer (some ⟨bn, 0, none⟩))] rfl ?_
  refine V_seq ?_
  refine V_region ?_
  refine OI_box 29 (.tmp 0) (.func (.yield l) #[] #[]) [.func (.yield l) #[] #[]] (some 4) (by kernel_rfl) (by kernel_rfl) (by kernel_rfl) ?_
  intro b1 w1 e1 hb1 k1 z1
  have hsz2 := Keep.size k1
  replace hbg := hbg.keep k1 (fun f => f)
  have hbglt := hbg.lt
  replace hbs := hbs.keep k1 (fun f => f)
  have hbslt := hbs.lt
  replace hbn := hbn.keep k1 (fun f => f)
  have hbnlt := hbn.lt
  replace hg := hg.keep k1 (fun f => f)
  have hglt := hg.lt
  replace hA := SlT.keep0 hA k1
  replace hK0 := Keep.tr hK0 (Keep.ofNone k1); have hzhK0 := Keep.size hK0
  have hb1lt := hb1.lt
  refine OI_end rfl ?_
  refine X_then ?_
  refine V_seq ?_
  refine V_region ?_
  refine OI_cell 22 (.tmp 1) 0 (.pointer (some ⟨g, 0, none⟩)) (some 7) (by kernel_rfl) (by kernel_rfl) hbg (m := 1) (by kernel_rfl) rfl ?_
  refine OI_call { callee := (Callee.value (Operand.func 40)), args := #[(Operand.tmp 7)], argTypes := #[22] } 40 #[.pointer (some ⟨g, 0, none⟩)] (some 8) (by kernel_rfl) (by kernel_rfl) (by kernel_rfl) (cellsfn_spec _ rfl _) ?_
  rintro _ w3 ⟨c5, rfl, hc5, hk4, hgec5⟩
  refine ⟨_, rfl, ?_⟩
  have hsz6 := Keep.size hk4
  replace hbg := hbg.keep hk4 (fun f => f)
  have hbglt := hbg.lt
  replace hbs := hbs.keep hk4 (fun f => f)
  have hbslt := hbs.lt
  replace hbn := hbn.keep hk4 (fun f => f)
  have hbnlt := hbn.lt
  replace hg := hg.keep hk4 (fun f => f)
  have hglt := hg.lt
  replace hb1 := hb1.keep hk4 (fun f => f)
  have hb1lt := hb1.lt
  replace hA := SlT.keep0 hA hk4
  replace hK0 := Keep.tr hK0 (Keep.ofNone hk4); have hzhK0 := Keep.size hK0
  have hc5lt := hc5.lt
  refine OI_end rfl ?_
  refine X_then ?_
  refine V_block ?_
  have hb4ge : w.heap.size ≤ b1 := by omega
  refine V_pick [(2, .pointer (some ⟨bs, 0, none⟩)), (3, .pointer (some ⟨bn, 0, none⟩)), (4, .pointer (some ⟨b1, 0, none⟩)), (8, .func (.func 53) #[] #[.pointer (some ⟨c5, 0, none⟩)])] rfl ?_
  have hN0 : w.heap.size ≤ w3.heap.size := hzhK0
  refine V_range2 (gf := 53) (caps := #[.pointer (some ⟨c5, 0, none⟩)]) (m := cs.length) (by kernel_rfl) (by kernel_rfl) (by kernel_rfl) ((cells1_iter c5 g cap A cs hn).to2) (⟨hc5, ⟨hg, hA, hgA⟩⟩) (fun W W' h k => ⟨h.1.quiet k, h.2.quiet k⟩) (encC_size cs) (fun M1 k W => (Blk W bs [.int .i64 0] 3) ∧ (Blk W bn [.int .i64 n] 3) ∧ (Blk W b1 [.func (.yield l) #[] #[]] 29) ∧ (J M1 (rowL n (cs.take k)).length W)) (fun M1 c k W => (c = .ret ∧ ∃ q : Nat, (Jx M1 q W) ∧ (q ≤ (rowL n cs).length))) (fun M1 k W W' h hk => by obtain ⟨jbs, jbn, jb1, jj⟩ := h; exact ⟨jbs.quiet hk, jbn.quiet hk, jb1.quiet hk, (((hJ _ _).mono (by omega)) _ _ jj hk)⟩) (fun M1 c k W W' h hk => by obtain ⟨hc, q, xx, hq⟩ := h; exact ⟨hc, q, (((hJx _ _).mono (by omega)) _ _ xx hk), hq⟩) (fun M1 hM1 => ⟨hbs, hbn, hb1, hJ _ _ _ _ (h0 _ (by omega)) (Keep.ofNone hK0)⟩) (fun M1 k W h => by obtain ⟨jbs, jbn, jb1, jj⟩ := h; exact (hOk _ _ _ jj).sl) ?_ ?_ ?_
  · skip
    intro lp D M1 k W hD hl hM hMW hkm ⟨jbs, jbn, jb1, jj⟩ ⟨rr, hrr⟩ hDD
    have hbslt := jbs.lt
    have hbnlt := jbn.lt
    have hb1lt := jb1.lt
    obtain ⟨x, hx⟩ : ∃ x, cs[k]? = some x := ⟨_, List.getElem?_eq_getElem (by omega)⟩
    rw [encC_at hx]
    refine V_pick [(2, .pointer (some ⟨bs, 0, none⟩)), (3, .pointer (some ⟨bn, 0, none⟩)), (4, .pointer (some ⟨b1, 0, none⟩)), (9, .agg #[.int .i64 x.a, .int .i64 x.b]), (10, .int .i64 x.v)] rfl ?_
    have hfen : Keep (fen w3.heap.size M1) W W := Keep.refl _ _
    have hzhfen := Keep.size hfen
    have hkj : Keep none_ W W := Keep.refl _ _
    have hzhkj := Keep.size hkj
    refine V_seq ?_
    refine V_region ?_
    refine OI_alloc 68 (.agg #[.int .i64 0, .int .i64 0]) [.int .i64 0, .int .i64 0] (some 5) (by kernel_rfl) (by kernel_rfl) (by kernel_rfl) ?_
    intro b7 w7 e7 hb7 k7 z7
    have hsz8 := Keep.size k7
    replace jbs := jbs.keep k7 (fun f => f)
    have hbslt := jbs.lt
    replace jbn := jbn.keep k7 (fun f => f)
    have hbnlt := jbn.lt
    replace jb1 := jb1.keep k7 (fun f => f)
    have hb1lt := jb1.lt
    replace hfen := Keep.tr hfen (Keep.ofNone k7); have hzhfen := Keep.size hfen
    replace hkj := Keep.tr hkj (Keep.ofNone k7); have hzhkj := Keep.size hkj
    have hb7lt := hb7.lt
    refine OI_set (m := 2) (kd := true) 68 (.tmp 5) (.tmp 9) 0 (.agg #[.int .i64 x.a, .int .i64 x.b]) [.int .i64 x.a, .int .i64 x.b] none (by kernel_rfl) (by kernel_rfl) (by kernel_rfl) hb7 (by kernel_rfl) (by kernel_rfl) (by kernel_rfl) (Nat.le_of_ble_eq_true (by kernel_rfl)) (by simp [Value.oneCell']) ?_
    intro w9 hb7_12 hk10 hz11
    replace hb7_12 : Blk w9 b7 [.int .i64 x.a, .int .i64 x.b] 68 := hb7_12
    have hsz13 := Keep.size hk10
    replace jbs := jbs.keep hk10 (by show ¬ (_ = _); omega)
    have hbslt := jbs.lt
    replace jbn := jbn.keep hk10 (by show ¬ (_ = _); omega)
    have hbnlt := jbn.lt
    replace jb1 := jb1.keep hk10 (by show ¬ (_ = _); omega)
    have hb1lt := jb1.lt
    replace hfen := Keep.fresh hfen hk10 (by intro i hi hs; have hs2 : i = b7 := hs; show _ ∨ _; omega); have hzhfen := Keep.size hfen
    replace hkj := Keep.fresh hkj hk10 (by intro i hi hs; first | exact hs | exact Or.inl hs | exact Or.inr hs | (exfalso; have hs2 : i = b7 := hs; omega)); have hzhkj := Keep.size hkj
    refine OI_end rfl ?_
    refine X_then ?_
    refine V_region ?_
    refine OI_static 1 [(2, .pointer (some ⟨bs, 0, none⟩)), (3, .pointer (some ⟨bn, 0, none⟩)), (4, .pointer (some ⟨b1, 0, none⟩)), (5, .pointer (some ⟨b7, 0, none⟩)), (6, .int .i64 x.v)] (by kernel_rfl) ?_
    refine OI_end rfl ?_
    refine X_begin2 hfen ?_
    intro W2 hk2 ⟨r2, hr2⟩ hD2
    have hsz14 := Keep.size hk2
    replace jbs := Blk.quiet jbs hk2
    have hbslt := jbs.lt
    replace jbn := Blk.quiet jbn hk2
    have hbnlt := jbn.lt
    replace jb1 := Blk.quiet jb1 hk2
    have hb1lt := jb1.lt
    replace hb7_12 := Blk.quiet hb7_12 hk2
    have hb7lt := hb7_12.lt
    replace jj := hJ _ _ _ _ jj (Keep.ofNone hkj); replace jj := (hJ _ _).mono (by omega : w.heap.size ≤ w3.heap.size) _ _ jj hk2; replace hkj := Keep.refl none_ W2
    have hzhk2 := Keep.size hk2
    have hfenb : Keep (fen w3.heap.size M1) W2 W2 := Keep.refl _ _
    have hzhfenb := Keep.size hfenb
    have hzhkj := Keep.size hkj
    refine V_block ?_
    refine V_seq ?_
    refine V_draws (acts [12]) none_ [[0, 1, 2, 3, 4, 5, 6, 7, 8, 9, 10, 11, 12, 13, 14]] (by kernel_rfl) (by repeat first | exact (by first | exact sure_postM | exact sure_rQ2 | exact sure_no | exact sure_body (by rintro _ _ ⟨h, _⟩; exact ⟨_, h⟩)) | refine sure_then ?_ | refine sure_block ?_ | refine sure_join ?_) (by kernel_rfl) ?_
    intro w16 hk15 he17 L hL18
    have hsz19 := Keep.size hk15
    replace jbs := jbs.keep hk15 (fun f => f)
    have hbslt := jbs.lt
    replace jbn := jbn.keep hk15 (fun f => f)
    have hbnlt := jbn.lt
    replace jb1 := jb1.keep hk15 (fun f => f)
    have hb1lt := jb1.lt
    replace hb7_12 := hb7_12.keep hk15 (fun f => f)
    have hb7lt := hb7_12.lt
    replace hkj := Keep.tr hkj (Keep.ofNone hk15); have hzhkj := Keep.size hkj
    replace hfenb := Keep.tr hfenb (Keep.ofNone hk15); have hzhfenb := Keep.size hfenb
    have qjbs := jbs
    have qjbn := jbn
    have qjb1 := jb1
    have qhb7_12 := hb7_12
    have K20 : Keep none_ w16 w16 := Keep.refl _ _
    obtain rfl := List.mem_singleton.1 hL18
    refine GI_cell 3 (.tmp 2) 0 (.int .i64 0) (some 11) (by kernel_rfl) (by kernel_rfl) (by kernel_rfl) qjbs (fun f => f) (m := 1) (by kernel_rfl) rfl ?_
    refine GI_static [2, 3, 4, 5, 6, 7, 8, 9, 10, 11, 12, 13, 14] [(2, .pointer (some ⟨bs, 0, none⟩)), (3, .pointer (some ⟨bn, 0, none⟩)), (4, .pointer (some ⟨b1, 0, none⟩)), (5, .pointer (some ⟨b7, 0, none⟩)), (6, .int .i64 x.v), (12, .pointer (some ⟨b7, 0, none⟩))] (by kernel_rfl) ?_
    refine GI_cell 3 (.tmp 12) 0 (.int .i64 x.a) (some 13) (by kernel_rfl) (by kernel_rfl) (by kernel_rfl) qhb7_12 (fun f => f) (m := 1) (by kernel_rfl) rfl ?_
    refine GI_cell 3 (.tmp 3) 0 (.int .i64 n) (some 14) (by kernel_rfl) (by kernel_rfl) (by kernel_rfl) qjbn (fun f => f) (m := 1) (by kernel_rfl) rfl ?_
    refine GI_static [6, 7, 8, 9, 10, 11, 12, 13, 14] [(2, .pointer (some ⟨bs, 0, none⟩)), (4, .pointer (some ⟨b1, 0, none⟩)), (5, .pointer (some ⟨b7, 0, none⟩)), (6, .int .i64 x.v), (16, .bool (decide (x.a = n)))] (by kernel_rfl) ?_
    by_cases hg21 : x.a = n
    · skip
      refine GI_eq [(2, .pointer (some ⟨bs, 0, none⟩)), (4, .pointer (some ⟨b1, 0, none⟩)), (5, .pointer (some ⟨b7, 0, none⟩)), (6, .int .i64 x.v), (16, .bool true)] (by first | simp [hg21] | rfl) ?_
      refine GI_cell 29 (.tmp 4) 0 (.func (.yield l) #[] #[]) (some 17) (by kernel_rfl) (by kernel_rfl) (by kernel_rfl) qjb1 (fun f => f) (m := 1) (by kernel_rfl) rfl ?_
      refine GI_cell 3 (.tmp 2) 0 (.int .i64 0) (some 18) (by kernel_rfl) (by kernel_rfl) (by kernel_rfl) qjbs (fun f => f) (m := 1) (by kernel_rfl) rfl ?_
      refine GI_static [10, 11, 12, 13, 14] [(6, .int .i64 x.v), (16, .bool true), (17, .func (.yield l) #[] #[]), (20, .pointer (some ⟨b7, 1, none⟩))] (by kernel_rfl) ?_
      refine GI_cell 3 (.tmp 20) 1 (.int .i64 x.b) (some 21) (by kernel_rfl) (by kernel_rfl) (by kernel_rfl) qhb7_12 (fun f => f) (m := 1) (by kernel_rfl) rfl ?_
      refine GI_static [12, 13, 14] [(16, .bool true), (17, .func (.yield l) #[] #[]), (21, .int .i64 x.b), (22, .int .i64 x.v)] (by kernel_rfl) ?_
      obtain ⟨hat, hlt⟩ := rowL_at hx hg21
      refine GI_yield0 { callee := (Callee.value (Operand.tmp 17)), args := #[(Operand.tmp 21), (Operand.tmp 22)], argTypes := #[3, 3] } l #[.int .i64 x.b, .int .i64 x.v] (some 23) (by kernel_rfl) (by kernel_rfl) (by kernel_rfl) (by kernel_rfl) (by have hy := hY M1 _ _ (by omega) (by omega) hlt (hJ _ _ _ _ jj (Keep.ofNone hkj)); rw [enc2_at hat] at hy; exact hy) ?_
      rintro _ w22 ⟨hk24, (⟨rfl, hj23⟩ | ⟨rfl, hj23⟩)⟩
      · skip
        refine ⟨_, rfl, ?_⟩
        have hsz25 := Keep.size hk24
        replace jb1 := jb1.keep hk24 (by show ¬ (_ ∨ _); omega)
        have hb1lt := jb1.lt
        replace hfenb := Keep.fresh hfenb hk24 (by intro i hi hs; rcases hs with hs | hs; exact .inl (by omega); exact .inr hs); have hzhfenb := Keep.size hfenb
        have hok26 := hOk _ _ _ hj23
        have hok26s := hok26.side
        have hok26n := hok26.num
        refine GI_static [] [(25, .bool false)] (by kernel_rfl) ?_
        refine GI_end ?_
        refine X_then ?_
        refine V_false rfl ?_
        refine V_skip ?_
        refine X_block ?_
        exact fun a _ => ⟨hfenb, hok26s, hok26n, jb1, by rw [rowL_step hx, if_pos hg21]; simpa using hj23⟩
      · skip
        refine ⟨_, rfl, ?_⟩
        have hsz27 := Keep.size hk24
        replace jb1 := jb1.keep hk24 (by show ¬ (_ ∨ _); omega)
        have hb1lt := jb1.lt
        replace hfenb := Keep.fresh hfenb hk24 (by intro i hi hs; rcases hs with hs | hs; exact .inl (by omega); exact .inr hs); have hzhfenb := Keep.size hfenb
        refine GI_static [] [(25, .bool true)] (by kernel_rfl) ?_
        refine GI_end ?_
        refine X_then ?_
        refine V_true rfl ?_
        refine V_ret ?_
        refine X_ret_block ?_
        exact fun a _ => ⟨hfenb, ⟨rfl, _, hj23, by omega⟩⟩
    · skip
      refine GI_eq [(2, .pointer (some ⟨bs, 0, none⟩)), (4, .pointer (some ⟨b1, 0, none⟩)), (5, .pointer (some ⟨b7, 0, none⟩)), (6, .int .i64 x.v), (16, .bool false)] (by first | simp [hg21] | rfl) ?_
      refine GI_static [] [(25, .bool false)] (by kernel_rfl) ?_
      refine GI_end ?_
      refine X_then ?_
      refine V_false rfl ?_
      refine V_skip ?_
      refine X_block ?_
      exact fun a _ => ⟨hfenb, jbs, jbn, jb1, hJ _ _ _ _ (by rw [rowL_step hx, if_neg hg21]; exact jj) (Keep.ofNone hkj)⟩
  · skip
    intro D M1 W hD hM ⟨jbs, jbn, jb1, jj⟩ hDD
    have hbslt := jbs.lt
    have hbnlt := jbn.lt
    have hb1lt := jb1.lt
    refine X_block ?_
    rw [List.take_length] at jj
    exact leave1 (.tuple #[]) (.inr rfl) hDD (fun w' hk => ⟨res_tmps rfl, ⟨_, rfl⟩, M1, by omega, .inl (((hJ _ _).mono (by omega)) _ _ jj hk)⟩)
  · skip
    intro D M1 k c W hD hM hkm h hDD
    obtain ⟨hc, q, xx, hq⟩ := h
    subst hc
    refine V_ret ?_
    refine X_ret_block ?_
    exact leave1 (.tuple #[]) (.inl rfl) hDD (fun w' hk => ⟨res_tmps rfl, ⟨_, rfl⟩, M1, by omega, .inr ⟨q, hq, ((hJx _ _).mono (by omega)) _ _ xx hk⟩⟩)

theorem along1_iter1 (bg bs bn g cap : Nat) (A : Option Addr) (cs : List Ci) (n : Int) (hn : cs.length ≤ 1000000) : Iter2 Try.prog 47 #[.pointer (some ⟨bg, 0, none⟩), .pointer (some ⟨bs, 0, none⟩), .pointer (some ⟨bn, 0, none⟩)] (colL n cs).length (enc2 (colL n cs)) (fun W => Blk W bg [.pointer (some ⟨g, 0, none⟩)] 22 ∧ GrAt W g A cap cs ∧ AlOk bs bn 1 n A cap cs W) (AlOk bs bn 1 n A cap cs) := by
  intro l J Jx w hPre hJ hJx hY hOk h0
  obtain ⟨hbg, h, ho⟩ := hPre
  have hbs := ho.side
  have hbn := ho.num
  have hg := h.blk
  have hA := h.sl
  have hglt := hg.lt
  have hgA := h.off
  have hbslt := hbs.lt
  have hbnlt := hbn.lt
  have hbglt := hbg.lt
  show Calls Try.prog 47 #[.func (.yield l) #[] #[], .pointer (some ⟨bg, 0, none⟩), .pointer (some ⟨bs, 0, none⟩), .pointer (some ⟨bn, 0, none⟩)] w _
  have hK0 : Keep none_ w w := Keep.refl _ _
  have hzhK0 := Keep.size hK0
  refine enterM Try.func47 rfl [.func (.yield l) #[] #[], .pointer (some ⟨bg, 0, none⟩), .pointer (some ⟨bs, 0, none⟩), .pointer (some ⟨bn, 0, none⟩)] 26 rfl rfl rfl ?_
  refine V_pick [(0, .func (.yield l) #[] #[]), (1, .pointer (some ⟨bg, 0, none⟩)), (2, .pointer (some ⟨bs, 0, none⟩)), (3, .pointer (some ⟨bn, 0, none⟩))] rfl ?_
  refine V_seq ?_
  refine V_region ?_
  refine OI_box 29 (.tmp 0) (.func (.yield l) #[] #[]) [.func (.yield l) #[] #[]] (some 4) (by kernel_rfl) (by kernel_rfl) (by kernel_rfl) ?_
  intro b1 w1 e1 hb1 k1 z1
  have hsz2 := Keep.size k1
  replace hbg := hbg.keep k1 (fun f => f)
  have hbglt := hbg.lt
  replace hbs := hbs.keep k1 (fun f => f)
  have hbslt := hbs.lt
  replace hbn := hbn.keep k1 (fun f => f)
  have hbnlt := hbn.lt
  replace hg := hg.keep k1 (fun f => f)
  have hglt := hg.lt
  replace hA := SlT.keep0 hA k1
  replace hK0 := Keep.tr hK0 (Keep.ofNone k1); have hzhK0 := Keep.size hK0
  have hb1lt := hb1.lt
  refine OI_end rfl ?_
  refine X_then ?_
  refine V_seq ?_
  refine V_region ?_
  refine OI_cell 22 (.tmp 1) 0 (.pointer (some ⟨g, 0, none⟩)) (some 7) (by kernel_rfl) (by kernel_rfl) hbg (m := 1) (by kernel_rfl) rfl ?_
  refine OI_call { callee := (Callee.value (Operand.func 40)), args := #[(Operand.tmp 7)], argTypes := #[22] } 40 #[.pointer (some ⟨g, 0, none⟩)] (some 8) (by kernel_rfl) (by kernel_rfl) (by kernel_rfl) (cellsfn_spec _ rfl _) ?_
  rintro _ w3 ⟨c5, rfl, hc5, hk4, hgec5⟩
  refine ⟨_, rfl, ?_⟩
  have hsz6 := Keep.size hk4
  replace hbg := hbg.keep hk4 (fun f => f)
  have hbglt := hbg.lt
  replace hbs := hbs.keep hk4 (fun f => f)
  have hbslt := hbs.lt
  replace hbn := hbn.keep hk4 (fun f => f)
  have hbnlt := hbn.lt
  replace hg := hg.keep hk4 (fun f => f)
  have hglt := hg.lt
  replace hb1 := hb1.keep hk4 (fun f => f)
  have hb1lt := hb1.lt
  replace hA := SlT.keep0 hA hk4
  replace hK0 := Keep.tr hK0 (Keep.ofNone hk4); have hzhK0 := Keep.size hK0
  have hc5lt := hc5.lt
  refine OI_end rfl ?_
  refine X_then ?_
  refine V_block ?_
  have hb4ge : w.heap.size ≤ b1 := by omega
  refine V_pick [(2, .pointer (some ⟨bs, 0, none⟩)), (3, .pointer (some ⟨bn, 0, none⟩)), (4, .pointer (some ⟨b1, 0, none⟩)), (8, .func (.func 53) #[] #[.pointer (some ⟨c5, 0, none⟩)])] rfl ?_
  have hN0 : w.heap.size ≤ w3.heap.size := hzhK0
  refine V_range2 (gf := 53) (caps := #[.pointer (some ⟨c5, 0, none⟩)]) (m := cs.length) (by kernel_rfl) (by kernel_rfl) (by kernel_rfl) ((cells1_iter c5 g cap A cs hn).to2) (⟨hc5, ⟨hg, hA, hgA⟩⟩) (fun W W' h k => ⟨h.1.quiet k, h.2.quiet k⟩) (encC_size cs) (fun M1 k W => (Blk W bs [.int .i64 1] 3) ∧ (Blk W bn [.int .i64 n] 3) ∧ (Blk W b1 [.func (.yield l) #[] #[]] 29) ∧ (J M1 (colL n (cs.take k)).length W)) (fun M1 c k W => (c = .ret ∧ ∃ q : Nat, (Jx M1 q W) ∧ (q ≤ (colL n cs).length))) (fun M1 k W W' h hk => by obtain ⟨jbs, jbn, jb1, jj⟩ := h; exact ⟨jbs.quiet hk, jbn.quiet hk, jb1.quiet hk, (((hJ _ _).mono (by omega)) _ _ jj hk)⟩) (fun M1 c k W W' h hk => by obtain ⟨hc, q, xx, hq⟩ := h; exact ⟨hc, q, (((hJx _ _).mono (by omega)) _ _ xx hk), hq⟩) (fun M1 hM1 => ⟨hbs, hbn, hb1, hJ _ _ _ _ (h0 _ (by omega)) (Keep.ofNone hK0)⟩) (fun M1 k W h => by obtain ⟨jbs, jbn, jb1, jj⟩ := h; exact (hOk _ _ _ jj).sl) ?_ ?_ ?_
  · skip
    intro lp D M1 k W hD hl hM hMW hkm ⟨jbs, jbn, jb1, jj⟩ ⟨rr, hrr⟩ hDD
    have hbslt := jbs.lt
    have hbnlt := jbn.lt
    have hb1lt := jb1.lt
    obtain ⟨x, hx⟩ : ∃ x, cs[k]? = some x := ⟨_, List.getElem?_eq_getElem (by omega)⟩
    rw [encC_at hx]
    refine V_pick [(2, .pointer (some ⟨bs, 0, none⟩)), (3, .pointer (some ⟨bn, 0, none⟩)), (4, .pointer (some ⟨b1, 0, none⟩)), (9, .agg #[.int .i64 x.a, .int .i64 x.b]), (10, .int .i64 x.v)] rfl ?_
    have hfen : Keep (fen w3.heap.size M1) W W := Keep.refl _ _
    have hzhfen := Keep.size hfen
    have hkj : Keep none_ W W := Keep.refl _ _
    have hzhkj := Keep.size hkj
    refine V_seq ?_
    refine V_region ?_
    refine OI_alloc 68 (.agg #[.int .i64 0, .int .i64 0]) [.int .i64 0, .int .i64 0] (some 5) (by kernel_rfl) (by kernel_rfl) (by kernel_rfl) ?_
    intro b7 w7 e7 hb7 k7 z7
    have hsz8 := Keep.size k7
    replace jbs := jbs.keep k7 (fun f => f)
    have hbslt := jbs.lt
    replace jbn := jbn.keep k7 (fun f => f)
    have hbnlt := jbn.lt
    replace jb1 := jb1.keep k7 (fun f => f)
    have hb1lt := jb1.lt
    replace hfen := Keep.tr hfen (Keep.ofNone k7); have hzhfen := Keep.size hfen
    replace hkj := Keep.tr hkj (Keep.ofNone k7); have hzhkj := Keep.size hkj
    have hb7lt := hb7.lt
    refine OI_set (m := 2) (kd := true) 68 (.tmp 5) (.tmp 9) 0 (.agg #[.int .i64 x.a, .int .i64 x.b]) [.int .i64 x.a, .int .i64 x.b] none (by kernel_rfl) (by kernel_rfl) (by kernel_rfl) hb7 (by kernel_rfl) (by kernel_rfl) (by kernel_rfl) (Nat.le_of_ble_eq_true (by kernel_rfl)) (by simp [Value.oneCell']) ?_
    intro w9 hb7_12 hk10 hz11
    replace hb7_12 : Blk w9 b7 [.int .i64 x.a, .int .i64 x.b] 68 := hb7_12
    have hsz13 := Keep.size hk10
    replace jbs := jbs.keep hk10 (by show ¬ (_ = _); omega)
    have hbslt := jbs.lt
    replace jbn := jbn.keep hk10 (by show ¬ (_ = _); omega)
    have hbnlt := jbn.lt
    replace jb1 := jb1.keep hk10 (by show ¬ (_ = _); omega)
    have hb1lt := jb1.lt
    replace hfen := Keep.fresh hfen hk10 (by intro i hi hs; have hs2 : i = b7 := hs; show _ ∨ _; omega); have hzhfen := Keep.size hfen
    replace hkj := Keep.fresh hkj hk10 (by intro i hi hs; first | exact hs | exact Or.inl hs | exact Or.inr hs | (exfalso; have hs2 : i = b7 := hs; omega)); have hzhkj := Keep.size hkj
    refine OI_end rfl ?_
    refine X_then ?_
    refine V_region ?_
    refine OI_static 1 [(2, .pointer (some ⟨bs, 0, none⟩)), (3, .pointer (some ⟨bn, 0, none⟩)), (4, .pointer (some ⟨b1, 0, none⟩)), (5, .pointer (some ⟨b7, 0, none⟩)), (6, .int .i64 x.v)] (by kernel_rfl) ?_
    refine OI_end rfl ?_
    refine X_begin2 hfen ?_
    intro W2 hk2 ⟨r2, hr2⟩ hD2
    have hsz14 := Keep.size hk2
    replace jbs := Blk.quiet jbs hk2
    have hbslt := jbs.lt
    replace jbn := Blk.quiet jbn hk2
    have hbnlt := jbn.lt
    replace jb1 := Blk.quiet jb1 hk2
    have hb1lt := jb1.lt
    replace hb7_12 := Blk.quiet hb7_12 hk2
    have hb7lt := hb7_12.lt
    replace jj := hJ _ _ _ _ jj (Keep.ofNone hkj); replace jj := (hJ _ _).mono (by omega : w.heap.size ≤ w3.heap.size) _ _ jj hk2; replace hkj := Keep.refl none_ W2
    have hzhk2 := Keep.size hk2
    have hfenb : Keep (fen w3.heap.size M1) W2 W2 := Keep.refl _ _
    have hzhfenb := Keep.size hfenb
    have hzhkj := Keep.size hkj
    refine V_block ?_
    refine V_seq ?_
    refine V_draws (acts [12]) none_ [[0, 1, 2, 3, 4, 5, 6, 7, 8, 9, 10, 11, 12, 13, 14]] (by kernel_rfl) (by repeat first | exact (by first | exact sure_postM | exact sure_rQ2 | exact sure_no | exact sure_body (by rintro _ _ ⟨h, _⟩; exact ⟨_, h⟩)) | refine sure_then ?_ | refine sure_block ?_ | refine sure_join ?_) (by kernel_rfl) ?_
    intro w16 hk15 he17 L hL18
    have hsz19 := Keep.size hk15
    replace jbs := jbs.keep hk15 (fun f => f)
    have hbslt := jbs.lt
    replace jbn := jbn.keep hk15 (fun f => f)
    have hbnlt := jbn.lt
    replace jb1 := jb1.keep hk15 (fun f => f)
    have hb1lt := jb1.lt
    replace hb7_12 := hb7_12.keep hk15 (fun f => f)
    have hb7lt := hb7_12.lt
    replace hkj := Keep.tr hkj (Keep.ofNone hk15); have hzhkj := Keep.size hkj
    replace hfenb := Keep.tr hfenb (Keep.ofNone hk15); have hzhfenb := Keep.size hfenb
    have qjbs := jbs
    have qjbn := jbn
    have qjb1 := jb1
    have qhb7_12 := hb7_12
    have K20 : Keep none_ w16 w16 := Keep.refl _ _
    obtain rfl := List.mem_singleton.1 hL18
    refine GI_cell 3 (.tmp 2) 0 (.int .i64 1) (some 11) (by kernel_rfl) (by kernel_rfl) (by kernel_rfl) qjbs (fun f => f) (m := 1) (by kernel_rfl) rfl ?_
    refine GI_static [2, 3, 4, 5, 6, 7, 8, 9, 10, 11, 12, 13, 14] [(2, .pointer (some ⟨bs, 0, none⟩)), (3, .pointer (some ⟨bn, 0, none⟩)), (4, .pointer (some ⟨b1, 0, none⟩)), (5, .pointer (some ⟨b7, 0, none⟩)), (6, .int .i64 x.v), (12, .pointer (some ⟨b7, 1, none⟩))] (by kernel_rfl) ?_
    refine GI_cell 3 (.tmp 12) 1 (.int .i64 x.b) (some 13) (by kernel_rfl) (by kernel_rfl) (by kernel_rfl) qhb7_12 (fun f => f) (m := 1) (by kernel_rfl) rfl ?_
    refine GI_cell 3 (.tmp 3) 0 (.int .i64 n) (some 14) (by kernel_rfl) (by kernel_rfl) (by kernel_rfl) qjbn (fun f => f) (m := 1) (by kernel_rfl) rfl ?_
    refine GI_static [6, 7, 8, 9, 10, 11, 12, 13, 14] [(2, .pointer (some ⟨bs, 0, none⟩)), (4, .pointer (some ⟨b1, 0, none⟩)), (5, .pointer (some ⟨b7, 0, none⟩)), (6, .int .i64 x.v), (16, .bool (decide (x.b = n)))] (by kernel_rfl) ?_
    by_cases hg21 : x.b = n
    · skip
      refine GI_eq [(2, .pointer (some ⟨bs, 0, none⟩)), (4, .pointer (some ⟨b1, 0, none⟩)), (5, .pointer (some ⟨b7, 0, none⟩)), (6, .int .i64 x.v), (16, .bool true)] (by first | simp [hg21] | rfl) ?_
      refine GI_cell 29 (.tmp 4) 0 (.func (.yield l) #[] #[]) (some 17) (by kernel_rfl) (by kernel_rfl) (by kernel_rfl) qjb1 (fun f => f) (m := 1) (by kernel_rfl) rfl ?_
      refine GI_cell 3 (.tmp 2) 0 (.int .i64 1) (some 18) (by kernel_rfl) (by kernel_rfl) (by kernel_rfl) qjbs (fun f => f) (m := 1) (by kernel_rfl) rfl ?_
      refine GI_static [10, 11, 12, 13, 14] [(6, .int .i64 x.v), (16, .bool true), (17, .func (.yield l) #[] #[]), (20, .pointer (some ⟨b7, 0, none⟩))] (by kernel_rfl) ?_
      refine GI_cell 3 (.tmp 20) 0 (.int .i64 x.a) (some 21) (by kernel_rfl) (by kernel_rfl) (by kernel_rfl) qhb7_12 (fun f => f) (m := 1) (by kernel_rfl) rfl ?_
      refine GI_static [12, 13, 14] [(16, .bool true), (17, .func (.yield l) #[] #[]), (21, .int .i64 x.a), (22, .int .i64 x.v)] (by kernel_rfl) ?_
      obtain ⟨hat, hlt⟩ := colL_at hx hg21
      refine GI_yield0 { callee := (Callee.value (Operand.tmp 17)), args := #[(Operand.tmp 21), (Operand.tmp 22)], argTypes := #[3, 3] } l #[.int .i64 x.a, .int .i64 x.v] (some 23) (by kernel_rfl) (by kernel_rfl) (by kernel_rfl) (by kernel_rfl) (by have hy := hY M1 _ _ (by omega) (by omega) hlt (hJ _ _ _ _ jj (Keep.ofNone hkj)); rw [enc2_at hat] at hy; exact hy) ?_
      rintro _ w22 ⟨hk24, (⟨rfl, hj23⟩ | ⟨rfl, hj23⟩)⟩
      · skip
        refine ⟨_, rfl, ?_⟩
        have hsz25 := Keep.size hk24
        replace jb1 := jb1.keep hk24 (by show ¬ (_ ∨ _); omega)
        have hb1lt := jb1.lt
        replace hfenb := Keep.fresh hfenb hk24 (by intro i hi hs; rcases hs with hs | hs; exact .inl (by omega); exact .inr hs); have hzhfenb := Keep.size hfenb
        have hok26 := hOk _ _ _ hj23
        have hok26s := hok26.side
        have hok26n := hok26.num
        refine GI_static [] [(25, .bool false)] (by kernel_rfl) ?_
        refine GI_end ?_
        refine X_then ?_
        refine V_false rfl ?_
        refine V_skip ?_
        refine X_block ?_
        exact fun a _ => ⟨hfenb, hok26s, hok26n, jb1, by rw [colL_step hx, if_pos hg21]; simpa using hj23⟩
      · skip
        refine ⟨_, rfl, ?_⟩
        have hsz27 := Keep.size hk24
        replace jb1 := jb1.keep hk24 (by show ¬ (_ ∨ _); omega)
        have hb1lt := jb1.lt
        replace hfenb := Keep.fresh hfenb hk24 (by intro i hi hs; rcases hs with hs | hs; exact .inl (by omega); exact .inr hs); have hzhfenb := Keep.size hfenb
        refine GI_static [] [(25, .bool true)] (by kernel_rfl) ?_
        refine GI_end ?_
        refine X_then ?_
        refine V_true rfl ?_
        refine V_ret ?_
        refine X_ret_block ?_
        exact fun a _ => ⟨hfenb, ⟨rfl, _, hj23, by omega⟩⟩
    · skip
      refine GI_eq [(2, .pointer (some ⟨bs, 0, none⟩)), (4, .pointer (some ⟨b1, 0, none⟩)), (5, .pointer (some ⟨b7, 0, none⟩)), (6, .int .i64 x.v), (16, .bool false)] (by first | simp [hg21] | rfl) ?_
      refine GI_static [] [(25, .bool false)] (by kernel_rfl) ?_
      refine GI_end ?_
      refine X_then ?_
      refine V_false rfl ?_
      refine V_skip ?_
      refine X_block ?_
      exact fun a _ => ⟨hfenb, jbs, jbn, jb1, hJ _ _ _ _ (by rw [colL_step hx, if_neg hg21]; exact jj) (Keep.ofNone hkj)⟩
  · skip
    intro D M1 W hD hM ⟨jbs, jbn, jb1, jj⟩ hDD
    have hbslt := jbs.lt
    have hbnlt := jbn.lt
    have hb1lt := jb1.lt
    refine X_block ?_
    rw [List.take_length] at jj
    exact leave1 (.tuple #[]) (.inr rfl) hDD (fun w' hk => ⟨res_tmps rfl, ⟨_, rfl⟩, M1, by omega, .inl (((hJ _ _).mono (by omega)) _ _ jj hk)⟩)
  · skip
    intro D M1 k c W hD hM hkm h hDD
    obtain ⟨hc, q, xx, hq⟩ := h
    subst hc
    refine V_ret ?_
    refine X_ret_block ?_
    exact leave1 (.tuple #[]) (.inl rfl) hDD (fun w' hk => ⟨res_tmps rfl, ⟨_, rfl⟩, M1, by omega, .inr ⟨q, hq, ((hJx _ _).mono (by omega)) _ _ xx hk⟩⟩)

theorem along1_nil (bg bs bn : Nat) (s : Int) (enc : Nat → Array Value) (n : Int) : Iter2 Try.prog 47 #[.pointer (some ⟨bg, 0, none⟩), .pointer (some ⟨bs, 0, none⟩), .pointer (some ⟨bn, 0, none⟩)] 0 enc (fun W => Blk W bg [.pointer none] 22 ∧ True) (fun _ => True) := by
  intro l J Jx w hPre hJ hJx hY hOk h0
  obtain ⟨hbg, _⟩ := hPre
  have hbglt := hbg.lt
  show Calls Try.prog 47 #[.func (.yield l) #[] #[], .pointer (some ⟨bg, 0, none⟩), .pointer (some ⟨bs, 0, none⟩), .pointer (some ⟨bn, 0, none⟩)] w _
  have hK0 : Keep none_ w w := Keep.refl _ _
  have hzhK0 := Keep.size hK0
  refine enterM Try.func47 rfl [.func (.yield l) #[] #[], .pointer (some ⟨bg, 0, none⟩), .pointer (some ⟨bs, 0, none⟩), .pointer (some ⟨bn, 0, none⟩)] 26 rfl rfl rfl ?_
  refine V_pick [(0, .func (.yield l) #[] #[]), (1, .pointer (some ⟨bg, 0, none⟩)), (2, .pointer (some ⟨bs, 0, none⟩)), (3, .pointer (some ⟨bn, 0, none⟩))] rfl ?_
  refine V_seq ?_
  refine V_region ?_
  refine OI_box 29 (.tmp 0) (.func (.yield l) #[] #[]) [.func (.yield l) #[] #[]] (some 4) (by kernel_rfl) (by kernel_rfl) (by kernel_rfl) ?_
  intro b1 w1 e1 hb1 k1 z1
  have hsz2 := Keep.size k1
  replace hbg := hbg.keep k1 (fun f => f)
  have hbglt := hbg.lt
  replace hK0 := Keep.tr hK0 (Keep.ofNone k1); have hzhK0 := Keep.size hK0
  have hb1lt := hb1.lt
  refine OI_end rfl ?_
  refine X_then ?_
  refine V_seq ?_
  refine V_region ?_
  refine OI_cell 22 (.tmp 1) 0 (.pointer none) (some 7) (by kernel_rfl) (by kernel_rfl) hbg (m := 1) (by kernel_rfl) rfl ?_
  refine OI_call { callee := (Callee.value (Operand.func 40)), args := #[(Operand.tmp 7)], argTypes := #[22] } 40 #[.pointer none] (some 8) (by kernel_rfl) (by kernel_rfl) (by kernel_rfl) (cellsfn_spec _ rfl _) ?_
  rintro _ w3 ⟨c5, rfl, hc5, hk4, hgec5⟩
  refine ⟨_, rfl, ?_⟩
  have hsz6 := Keep.size hk4
  replace hbg := hbg.keep hk4 (fun f => f)
  have hbglt := hbg.lt
  replace hb1 := hb1.keep hk4 (fun f => f)
  have hb1lt := hb1.lt
  replace hK0 := Keep.tr hK0 (Keep.ofNone hk4); have hzhK0 := Keep.size hK0
  have hc5lt := hc5.lt
  refine OI_end rfl ?_
  refine X_then ?_
  refine V_block ?_
  have hb4ge : w.heap.size ≤ b1 := by omega
  refine V_pick [(2, .pointer (some ⟨bs, 0, none⟩)), (3, .pointer (some ⟨bn, 0, none⟩)), (4, .pointer (some ⟨b1, 0, none⟩)), (8, .func (.func 53) #[] #[.pointer (some ⟨c5, 0, none⟩)])] rfl ?_
  have hN0 : w.heap.size ≤ w3.heap.size := hzhK0
  refine V_range2 (gf := 53) (caps := #[.pointer (some ⟨c5, 0, none⟩)]) (m := 0) (by kernel_rfl) (by kernel_rfl) (by kernel_rfl) ((cells1_nil c5 (fun _ => #[undef, undef])).to2) hc5 (fun W W' h k => Blk.quiet h k) (fun _ => rfl) (fun M1 k W => (J M1 0 W)) (fun M1 c k W => False) (fun M1 k W W' h hk => by have jj := h; exact (((hJ _ _).mono (by omega)) _ _ jj hk)) (fun _ _ _ _ _ h _ => h.elim) (fun M1 hM1 => (hJ _ _ _ _ (h0 _ (by omega)) (Keep.ofNone hK0))) (fun M1 k W h => by have jj := h; exact trivial) ?_ ?_ (fun _ _ _ _ _ _ _ _ h _ => h.elim)
  · skip
    intro lp D M1 k W hD hl hM hMW hkm jj ⟨rr, hrr⟩ hDD
    exact absurd hkm (Nat.not_lt_zero _)
  · skip
    intro D M1 W hD hM jj hDD
    refine X_block ?_
    exact leave1 (.tuple #[]) (.inr rfl) hDD (fun w' hk => ⟨res_tmps rfl, ⟨_, rfl⟩, M1, by omega, .inl (((hJ _ _).mono (by omega)) _ _ jj hk)⟩)

theorem alongfn_spec (v : Value) (hv : v.cells = [v].toArray) (s n : Int) (w : World) : Calls Try.prog 32 #[v, .int .i64 s, .int .i64 n] w fun e w' => ∃ bg bs bn, e = .returned (.func (.func 47) #[] #[.pointer (some ⟨bg, 0, none⟩), .pointer (some ⟨bs, 0, none⟩), .pointer (some ⟨bn, 0, none⟩)]) ∧ Blk w' bg [v] 22 ∧ Blk w' bs [.int .i64 s] 3 ∧ Blk w' bn [.int .i64 n] 3 ∧ Keep none_ w w' ∧ w.heap.size ≤ bg ∧ w.heap.size ≤ bs ∧ w.heap.size ≤ bn := by
  have hK0 : Keep none_ w w := Keep.refl _ _
  have hzhK0 := Keep.size hK0
  refine enterV Try.func32 rfl [v, .int .i64 s, .int .i64 n] 8 rfl rfl rfl ?_
  refine V_pick [(0, v), (1, .int .i64 s), (2, .int .i64 n)] rfl ?_
  refine V_seq ?_
  refine V_region ?_
  refine OI_box 22 (.tmp 0) v [v] (some 3) (by kernel_rfl) (by kernel_rfl) hv ?_
  intro b1 w1 e1 hb1 k1 z1
  have hsz2 := Keep.size k1
  replace hK0 := Keep.tr hK0 (Keep.ofNone k1); have hzhK0 := Keep.size hK0
  have hb1lt := hb1.lt
  refine OI_box 3 (.tmp 1) (.int .i64 s) [.int .i64 s] (some 4) (by kernel_rfl) (by kernel_rfl) (by kernel_rfl) ?_
  intro b3 w3 e3 hb3 k3 z3
  have hsz4 := Keep.size k3
  replace hb1 := hb1.keep k3 (fun f => f)
  have hb1lt := hb1.lt
  replace hK0 := Keep.tr hK0 (Keep.ofNone k3); have hzhK0 := Keep.size hK0
  have hb3lt := hb3.lt
  refine OI_box 3 (.tmp 2) (.int .i64 n) [.int .i64 n] (some 5) (by kernel_rfl) (by kernel_rfl) (by kernel_rfl) ?_
  intro b5 w5 e5 hb5 k5 z5
  have hsz6 := Keep.size k5
  replace hb1 := hb1.keep k5 (fun f => f)
  have hb1lt := hb1.lt
  replace hb3 := hb3.keep k5 (fun f => f)
  have hb3lt := hb3.lt
  replace hK0 := Keep.tr hK0 (Keep.ofNone k5); have hzhK0 := Keep.size hK0
  have hb5lt := hb5.lt
  refine OI_static 4 [(3, .pointer (some ⟨b1, 0, none⟩)), (4, .pointer (some ⟨b3, 0, none⟩)), (5, .pointer (some ⟨b5, 0, none⟩))] (by kernel_rfl) ?_
  refine OI_end rfl ?_
  refine X_then ?_
  refine V_seq ?_
  refine V_region ?_
  refine OI_static 2 [(6, .func (.func 47) #[] #[.pointer (some ⟨b1, 0, none⟩), .pointer (some ⟨b3, 0, none⟩), .pointer (some ⟨b5, 0, none⟩)])] (by kernel_rfl) ?_
  refine OI_end rfl ?_
  refine X_then ?_
  refine V_ret ?_
  exact X_return _ rfl ⟨_, _, _, rfl, hb1, hb3, hb5, hK0, by omega, by omega, by omega⟩

theorem row_spec (v : Value) (hv : v.cells = [v].toArray) (n : Int) (w : World) : Calls Try.prog 12 #[v, .int .i64 n] w fun e w' => ∃ bg bs bn, e = .returned (.func (.func 47) #[] #[.pointer (some ⟨bg, 0, none⟩), .pointer (some ⟨bs, 0, none⟩), .pointer (some ⟨bn, 0, none⟩)]) ∧ Blk w' bg [v] 22 ∧ Blk w' bs [.int .i64 0] 3 ∧ Blk w' bn [.int .i64 n] 3 ∧ Keep none_ w w' ∧ w.heap.size ≤ bg ∧ w.heap.size ≤ bs ∧ w.heap.size ≤ bn := by
  have hK0 : Keep none_ w w := Keep.refl _ _
  have hzhK0 := Keep.size hK0
  refine enterV Try.func12 rfl [v, .int .i64 n] 8 rfl rfl rfl ?_
  refine V_pick [(0, v), (1, .int .i64 n)] rfl ?_
  refine V_seq ?_
  refine V_region ?_
  refine OI_static 1 [(0, v), (1, .int .i64 n)] (by kernel_rfl) ?_
  refine OI_end rfl ?_
  refine X_then ?_
  refine V_seq ?_
  refine V_region ?_
  refine OI_static 2 [(5, v), (6, .int .i64 n)] (by kernel_rfl) ?_
  refine OI_call { callee := (Callee.value (Operand.func 32)), args := #[(Operand.tmp 5), (Operand.const (Value.int IntKind.i64 0)), (Operand.tmp 6)], argTypes := #[22, 3, 3] } 32 #[v, .int .i64 0, .int .i64 n] (some 7) (by kernel_rfl) (by kernel_rfl) (by kernel_rfl) (alongfn_spec v hv 0 n _) ?_
  rintro _ w1 ⟨bg, bs, bn, rfl, h1, h2, h3, hk2, h4, h5, h6⟩
  refine ⟨_, rfl, ?_⟩
  have hsz3 := Keep.size hk2
  replace hK0 := Keep.tr hK0 (Keep.ofNone hk2); have hzhK0 := Keep.size hK0
  refine OI_static 4 [(4, .func (.func 47) #[] #[.pointer (some ⟨bg, 0, none⟩), .pointer (some ⟨bs, 0, none⟩), .pointer (some ⟨bn, 0, none⟩)])] (by kernel_rfl) ?_
  refine OI_end rfl ?_
  refine X_then ?_
  refine V_ret ?_
  exact X_return _ rfl ⟨_, _, _, rfl, h1, h2, h3, hK0, h4, h5, h6⟩

theorem column_spec (v : Value) (hv : v.cells = [v].toArray) (n : Int) (w : World) : Calls Try.prog 13 #[v, .int .i64 n] w fun e w' => ∃ bg bs bn, e = .returned (.func (.func 47) #[] #[.pointer (some ⟨bg, 0, none⟩), .pointer (some ⟨bs, 0, none⟩), .pointer (some ⟨bn, 0, none⟩)]) ∧ Blk w' bg [v] 22 ∧ Blk w' bs [.int .i64 1] 3 ∧ Blk w' bn [.int .i64 n] 3 ∧ Keep none_ w w' ∧ w.heap.size ≤ bg ∧ w.heap.size ≤ bs ∧ w.heap.size ≤ bn := by
  have hK0 : Keep none_ w w := Keep.refl _ _
  have hzhK0 := Keep.size hK0
  refine enterV Try.func13 rfl [v, .int .i64 n] 8 rfl rfl rfl ?_
  refine V_pick [(0, v), (1, .int .i64 n)] rfl ?_
  refine V_seq ?_
  refine V_region ?_
  refine OI_static 1 [(0, v), (1, .int .i64 n)] (by kernel_rfl) ?_
  refine OI_end rfl ?_
  refine X_then ?_
  refine V_seq ?_
  refine V_region ?_
  refine OI_static 2 [(5, v), (6, .int .i64 n)] (by kernel_rfl) ?_
  refine OI_call { callee := (Callee.value (Operand.func 32)), args := #[(Operand.tmp 5), (Operand.const (Value.int IntKind.i64 1)), (Operand.tmp 6)], argTypes := #[22, 3, 3] } 32 #[v, .int .i64 1, .int .i64 n] (some 7) (by kernel_rfl) (by kernel_rfl) (by kernel_rfl) (alongfn_spec v hv 1 n _) ?_
  rintro _ w1 ⟨bg, bs, bn, rfl, h1, h2, h3, hk2, h4, h5, h6⟩
  refine ⟨_, rfl, ?_⟩
  have hsz3 := Keep.size hk2
  replace hK0 := Keep.tr hK0 (Keep.ofNone hk2); have hzhK0 := Keep.size hK0
  refine OI_static 4 [(4, .func (.func 47) #[] #[.pointer (some ⟨bg, 0, none⟩), .pointer (some ⟨bs, 0, none⟩), .pointer (some ⟨bn, 0, none⟩)])] (by kernel_rfl) ?_
  refine OI_end rfl ?_
  refine X_then ?_
  refine V_ret ?_
  exact X_return _ rfl ⟨_, _, _, rfl, h1, h2, h3, hK0, h4, h5, h6⟩
end Go.Al
