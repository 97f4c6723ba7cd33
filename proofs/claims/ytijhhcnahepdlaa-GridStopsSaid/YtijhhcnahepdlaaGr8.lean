/-
  Walks of the laws of grid: what a way tells.
-/
import Derived.Test.YtijhhcnahepdlaaGr7
namespace Go.Al
open Go Go.RowKit Go.Proofs
set_option maxRecDepth 10000 in
theorem told_spec (gf : FuncId) (caps : Array Value) (xs : List (Int × Int)) (Pre Ok : World → Prop) (w : World) (hb : bodied Try.prog gf = true) (hit : Iter2 Try.prog gf caps xs.length (enc2 xs) Pre Ok) (hPre : Pre w) (hPq : Quiet w.heap.size Pre) (hOk : ∀ W, Keep none_ w W → Ok W) (hn : xs.length ≤ 1000) : Calls Try.prog 20 #[.func (.func gf) #[] caps] w fun e w' => ∃ Ak capk Av capv, e = .returned (.tuple #[.slice Ak xs.length capk, .slice Av xs.length capv, .bool true]) ∧ SlT w' 1 intc Ak capk (xs.map (·.1)) ∧ SlT w' 1 intc Av capv (xs.map (·.2)) ∧ Keep none_ w w' ∧ (∀ q, inA Ak q → w.heap.size ≤ q) ∧ (∀ q, inA Av q → w.heap.size ≤ q) := by
  have hK0 : Keep none_ w w := Keep.refl _ _
  have hzhK0 := Keep.size hK0
  refine enterM Try.func20 rfl [.func (.func gf) #[] caps] 27 rfl rfl rfl ?_
  refine V_pick [(0, .func (.func gf) #[] caps)] rfl ?_
  refine V_seq ?_
  refine V_region ?_
  refine OI_alloc 30 (.slice none 0 0) [.slice none 0 0] (some 2) (by kernel_rfl) (by kernel_rfl) (by kernel_rfl) ?_
  intro b1 w1 e1 hb1 k1 z1
  replace hK0 := Keep.tr hK0 (Keep.ofNone k1); have hzhK0 := Keep.size hK0
  have hb1lt := hb1.lt
  refine OI_alloc 30 (.slice none 0 0) [.slice none 0 0] (some 3) (by kernel_rfl) (by kernel_rfl) (by kernel_rfl) ?_
  intro b2 w2 e2 hb2 k2 z2
  replace hb1 := hb1.keep k2 (fun f => f)
  have hb1lt := hb1.lt
  replace hK0 := Keep.tr hK0 (Keep.ofNone k2); have hzhK0 := Keep.size hK0
  have hb2lt := hb2.lt
  refine OI_alloc 4 (.bool false) [.bool false] (some 4) (by kernel_rfl) (by kernel_rfl) (by kernel_rfl) ?_
  intro b3 w3 e3 hb3 k3 z3
  replace hb1 := hb1.keep k3 (fun f => f)
  have hb1lt := hb1.lt
  replace hb2 := hb2.keep k3 (fun f => f)
  have hb2lt := hb2.lt
  replace hK0 := Keep.tr hK0 (Keep.ofNone k3); have hzhK0 := Keep.size hK0
  have hb3lt := hb3.lt
  refine OI_end rfl ?_
  refine X_then ?_
  refine V_seq ?_
  refine V_seq ?_
  refine V_region ?_
  refine OI_static 2 [(0, .func (.func gf) #[] caps), (2, .pointer (some ⟨b1, 0, none⟩)), (3, .pointer (some ⟨b2, 0, none⟩)), (4, .pointer (some ⟨b3, 0, none⟩)), (10, .bool false)] (by kernel_rfl) ?_
  refine OI_end rfl ?_
  refine X_then ?_
  refine V_false rfl ?_
  refine V_skip ?_
  refine X_then ?_
  refine V_seq ?_
  refine V_region ?_
  refine OI_alloc 30 (.slice none 0 0) [.slice none 0 0] (some 5) (by kernel_rfl) (by kernel_rfl) (by kernel_rfl) ?_
  intro b4 w4 e4 hb4 k4 z4
  replace hb1 := hb1.keep k4 (fun f => f)
  have hb1lt := hb1.lt
  replace hb2 := hb2.keep k4 (fun f => f)
  have hb2lt := hb2.lt
  replace hb3 := hb3.keep k4 (fun f => f)
  have hb3lt := hb3.lt
  replace hK0 := Keep.tr hK0 (Keep.ofNone k4); have hzhK0 := Keep.size hK0
  have hb4lt := hb4.lt
  refine OI_alloc 30 (.slice none 0 0) [.slice none 0 0] (some 6) (by kernel_rfl) (by kernel_rfl) (by kernel_rfl) ?_
  intro b5 w5 e5 hb5 k5 z5
  replace hb1 := hb1.keep k5 (fun f => f)
  have hb1lt := hb1.lt
  replace hb2 := hb2.keep k5 (fun f => f)
  have hb2lt := hb2.lt
  replace hb3 := hb3.keep k5 (fun f => f)
  have hb3lt := hb3.lt
  replace hb4 := hb4.keep k5 (fun f => f)
  have hb4lt := hb4.lt
  replace hK0 := Keep.tr hK0 (Keep.ofNone k5); have hzhK0 := Keep.size hK0
  have hb5lt := hb5.lt
  refine OI_end rfl ?_
  refine X_then ?_
  refine V_seq ?_
  refine V_seq ?_
  refine V_region ?_
  refine OI_static 1 [(2, .pointer (some ⟨b1, 0, none⟩)), (3, .pointer (some ⟨b2, 0, none⟩)), (4, .pointer (some ⟨b3, 0, none⟩)), (5, .pointer (some ⟨b4, 0, none⟩)), (6, .pointer (some ⟨b5, 0, none⟩)), (11, .func (.func gf) #[] caps)] (by kernel_rfl) ?_
  refine OI_end rfl ?_
  refine X_then ?_
  refine V_block ?_
  refine V_pick [(2, .pointer (some ⟨b1, 0, none⟩)), (3, .pointer (some ⟨b2, 0, none⟩)), (4, .pointer (some ⟨b3, 0, none⟩)), (5, .pointer (some ⟨b4, 0, none⟩)), (6, .pointer (some ⟨b5, 0, none⟩)), (11, .func (.func gf) #[] caps)] rfl ?_
  have hN0 : w.heap.size ≤ w5.heap.size := hzhK0
  refine V_range2 (gf := gf) (caps := caps) (m := xs.length) (by kernel_rfl) (by kernel_rfl) hb (hit) (hPq _ _ hPre (Keep.ofNone hK0)) (fun W W' h k => hPq _ _ h (k.mono fun _ _ h => lb_mono (by omega) h)) (enc2_size xs) (fun M1 k W => ∃ Ak : Option Addr, ∃ capk : Nat, ∃ Av : Option Addr, ∃ capv : Nat, (Blk W b1 [.slice none 0 0] 30) ∧ (Blk W b2 [.slice none 0 0] 30) ∧ (Blk W b3 [.bool false] 4) ∧ (Keep none_ w W) ∧ (Blk W b4 [.slice Ak (((xs.take k).map (·.1)).length) capk] 30) ∧ (Blk W b5 [.slice Av (((xs.take k).map (·.2)).length) capv] 30) ∧ (SlT W 1 intc Ak capk ((xs.take k).map (·.1))) ∧ (SlT W 1 intc Av capv ((xs.take k).map (·.2))) ∧ (∀ q, inA Ak q → M1 ≤ q) ∧ (∀ q, inA Av q → M1 ≤ q) ∧ (∀ q, inA Ak q → ¬ inA Av q)) (fun M1 c k W => False) (fun M1 k W W' h hk => by obtain ⟨Ak, capk, Av, capv, jb1, jb2, jb3, jhK0, jb4, jb5, jAk, jAv, ownk, ownv, hdis⟩ := h; exact ⟨Ak, capk, Av, capv, jb1.quiet hk, jb2.quiet hk, jb3.quiet hk, jhK0.quiet hk (by omega), jb4.quiet hk, jb5.quiet hk, jAk.quiet hk, jAv.quiet hk, ownk, ownv, hdis⟩) (fun _ _ _ _ _ h _ => h.elim) (fun M1 hM1 => ⟨none, 0, none, 0, hb1, hb2, hb3, hK0, hb4, hb5, SlT.nil _ _ _, SlT.nil _ _ _, fun q h => (inA_none h).elim, fun q h => (inA_none h).elim, fun q h => (inA_none h).elim⟩) (fun M1 k W h => by obtain ⟨Ak, capk, Av, capv, jb1, jb2, jb3, jhK0, jb4, jb5, jAk, jAv, ownk, ownv, hdis⟩ := h; exact hOk _ jhK0) ?_ ?_ (fun _ _ _ _ _ _ _ _ h _ => h.elim)
  · skip
    intro lp D M1 k W hD hl hM hMW hkm ⟨Ak, capk, Av, capv, jb1, jb2, jb3, jhK0, jb4, jb5, jAk, jAv, ownk, ownv, hdis⟩ ⟨rr, hrr⟩ hDD
    have hzjhK0 := Keep.size jhK0
    have hb1lt := jb1.lt
    have hb2lt := jb2.lt
    have hb3lt := jb3.lt
    have hb4lt := jb4.lt
    have hb5lt := jb5.lt
    have ltjAk := SlT.lt jAk
    have ltjAv := SlT.lt jAv
    obtain ⟨x, hx⟩ : ∃ x, xs[k]? = some x := ⟨_, List.getElem?_eq_getElem (by omega)⟩
    rw [enc2_at hx]
    have hlk : ((xs.take k).map (·.1)).length = k := by simp; omega
    have hlv : ((xs.take k).map (·.2)).length = k := by simp; omega
    have hs1 : (xs.take (k + 1)).map (·.1) = (xs.take k).map (·.1) ++ [x.1] := by obtain ⟨h1, h2⟩ := List.getElem?_eq_some_iff.1 hx; rw [List.take_succ_eq_append_getElem h1, h2]; simp
    have hs2 : (xs.take (k + 1)).map (·.2) = (xs.take k).map (·.2) ++ [x.2] := by obtain ⟨h1, h2⟩ := List.getElem?_eq_some_iff.1 hx; rw [List.take_succ_eq_append_getElem h1, h2]; simp
    refine V_pick [(2, .pointer (some ⟨b1, 0, none⟩)), (3, .pointer (some ⟨b2, 0, none⟩)), (4, .pointer (some ⟨b3, 0, none⟩)), (5, .pointer (some ⟨b4, 0, none⟩)), (6, .pointer (some ⟨b5, 0, none⟩)), (12, .int .i64 x.1), (13, .int .i64 x.2)] rfl ?_
    have hfen : Keep (fen w5.heap.size M1) W W := Keep.refl _ _
    have hzhfen := Keep.size hfen
    refine V_seq ?_
    refine V_region ?_
    refine OI_static 1 [(2, .pointer (some ⟨b1, 0, none⟩)), (3, .pointer (some ⟨b2, 0, none⟩)), (4, .pointer (some ⟨b3, 0, none⟩)), (5, .pointer (some ⟨b4, 0, none⟩)), (6, .pointer (some ⟨b5, 0, none⟩)), (7, .int .i64 x.1), (13, .int .i64 x.2)] (by kernel_rfl) ?_
    refine OI_end rfl ?_
    refine X_then ?_
    refine V_region ?_
    refine OI_static 1 [(2, .pointer (some ⟨b1, 0, none⟩)), (3, .pointer (some ⟨b2, 0, none⟩)), (4, .pointer (some ⟨b3, 0, none⟩)), (5, .pointer (some ⟨b4, 0, none⟩)), (6, .pointer (some ⟨b5, 0, none⟩)), (7, .int .i64 x.1), (8, .int .i64 x.2)] (by kernel_rfl) ?_
    refine OI_end rfl ?_
    refine X_begin2 hfen ?_
    intro W2 hk2 ⟨r2, hr2⟩ hD2
    replace jb1 := Blk.quiet jb1 hk2
    have hb1lt := jb1.lt
    replace jb2 := Blk.quiet jb2 hk2
    have hb2lt := jb2.lt
    replace jb3 := Blk.quiet jb3 hk2
    have hb3lt := jb3.lt
    replace jb4 := Blk.quiet jb4 hk2
    have hb4lt := jb4.lt
    replace jb5 := Blk.quiet jb5 hk2
    have hb5lt := jb5.lt
    replace jAk := SlT.quiet jAk hk2
    replace jAv := SlT.quiet jAv hk2
    replace jhK0 := Keep.quiet jhK0 hk2 (by omega); have hzjhK0 := Keep.size jhK0
    have hzhk2 := Keep.size hk2
    have hfenb : Keep (fen w5.heap.size M1) W2 W2 := Keep.refl _ _
    have hzhfenb := Keep.size hfenb
    refine V_block ?_
    refine V_seq ?_
    refine V_draws (acts [2, 3, 6, 7, 8, 9]) (fun q => M1 ≤ q) [[1, 2, 0, 3, 5, 6, 4, 7, 8, 9], [1, 2, 5, 6, 0, 3, 4, 7, 8, 9], [5, 6, 1, 2, 0, 3, 4, 7, 8, 9]] (by kernel_rfl) (by repeat first | exact (by first | exact sure_postM | exact sure_rQ2 | exact sure_no | exact sure_body (by rintro _ _ ⟨h, _⟩; exact ⟨_, h⟩)) | refine sure_then ?_ | refine sure_block ?_ | refine sure_join ?_) (by kernel_rfl) ?_
    intro w7 hk6 he8 L hL9
    replace jb1 := jb1.keep hk6 (fun f => f)
    have hb1lt := jb1.lt
    replace jb2 := jb2.keep hk6 (fun f => f)
    have hb2lt := jb2.lt
    replace jb3 := jb3.keep hk6 (fun f => f)
    have hb3lt := jb3.lt
    replace jb4 := jb4.keep hk6 (fun f => f)
    have hb4lt := jb4.lt
    replace jb5 := jb5.keep hk6 (fun f => f)
    have hb5lt := jb5.lt
    replace jAk := SlT.keep0 jAk hk6
    replace jAv := SlT.keep0 jAv hk6
    replace jhK0 := Keep.tr jhK0 (Keep.ofNone hk6); have hzjhK0 := Keep.size jhK0
    replace hfenb := Keep.tr hfenb (Keep.ofNone hk6); have hzhfenb := Keep.size hfenb
    have qjb1 := jb1
    have qjb2 := jb2
    have qjb3 := jb3
    have qjb4 := jb4
    have qjb5 := jb5
    have K10 : Keep (fun q => M1 ≤ q) w7 w7 := Keep.refl _ _
    simp only [List.mem_cons, List.not_mem_nil, or_false] at hL9
    rcases hL9 with rfl | rfl | rfl
    · skip
      refine GI_static [2, 0, 3, 5, 6, 4, 7, 8, 9] [(2, .pointer (some ⟨b1, 0, none⟩)), (3, .pointer (some ⟨b2, 0, none⟩)), (4, .pointer (some ⟨b3, 0, none⟩)), (5, .pointer (some ⟨b4, 0, none⟩)), (6, .pointer (some ⟨b5, 0, none⟩)), (8, .int .i64 x.2), (15, .int .i64 x.1)] (by kernel_rfl) ?_
      refine GI_slit (E := 3) (zv := .int .i64 0) (sz := 1) (by_ := 8) 30 1 #[(0, (Operand.tmp 15))] [.int .i64 x.1] [.int .i64 x.1] (some 16) (by kernel_rfl) (by kernel_rfl) K10 (by kernel_rfl) (by kernel_rfl) (by omega) rfl (by omega) (by intro v hv; simp only [List.mem_cons, List.not_mem_nil, or_false] at hv; rcases hv with rfl <;> rfl) (by kernel_rfl) rfl ?_
      intro b11 w11 e11 hb11 k11 z11 K12
      replace jb1 := jb1.keep k11 (fun f => f)
      have hb1lt := jb1.lt
      replace jb2 := jb2.keep k11 (fun f => f)
      have hb2lt := jb2.lt
      replace jb3 := jb3.keep k11 (fun f => f)
      have hb3lt := jb3.lt
      replace jb4 := jb4.keep k11 (fun f => f)
      have hb4lt := jb4.lt
      replace jb5 := jb5.keep k11 (fun f => f)
      have hb5lt := jb5.lt
      replace jAk := SlT.keep0 jAk k11
      replace jAv := SlT.keep0 jAv k11
      replace jhK0 := Keep.tr jhK0 (Keep.ofNone k11); have hzjhK0 := Keep.size jhK0
      replace hfenb := Keep.tr hfenb (Keep.ofNone k11); have hzhfenb := Keep.size hfenb
      have hb11lt := hb11.lt
      refine GI_cell 30 (.tmp 5) 0 (.slice Ak (((xs.take k).map (·.1)).length) capk) (some 14) (by kernel_rfl) (by kernel_rfl) (by kernel_rfl) qjb4 (by show ¬ (M1 ≤ b4); omega) (m := 1) (by kernel_rfl) rfl ?_
      refine GI_append (t := 30) (at2 := 30) (E := 3) (E2 := 3) (sz := 1) (by_ := 8) (zv := .int .i64 0) (m := ((xs.take k).map (·.1)).length) (k := 1) (.tmp 14) (.tmp 16) (.slice Ak (((xs.take k).map (·.1)).length) capk) (.slice (some ⟨b11, 0, none⟩) 1 1) (some 17) (by kernel_rfl) (by kernel_rfl) (by kernel_rfl) (by kernel_rfl) (by kernel_rfl) (by kernel_rfl) (by kernel_rfl) (by kernel_rfl) (SlT.slr jAk) (slr_one hb11 (intc_len x.1)) (intc_one x.1) (by first | omega | (simp only [List.length_nil]; omega)) (by omega) (by first | omega | (simp only [List.length_nil]; omega)) (by omega) ?_
      intro v w13 hap
      obtain ⟨A13, cap13, rfl, hA13, hk13, own13x⟩ := app_one (f := intc) (xs := ((xs.take k).map (·.1))) (x := x.1) (A := Ak) (cap := capk) hap (fun x _ => intc_len x) (intc_len _)
      have own13 : ∀ q, inA A13 q → M1 ≤ q := fun q hq => by rcases own13x q hq with h | h; exact ownk q h; (show M1 ≤ q; omega)
      refine ⟨Keep.fresh K12 hk13 (by intro i hi hs; have h1 := ownk i hs; have h2 := ltjAk i hs; show M1 ≤ i; omega), ?_⟩
      have K14 := Keep.fresh K12 hk13 (by intro i hi hs; have h1 := ownk i hs; have h2 := ltjAk i hs; show M1 ≤ i; omega)
      replace jb1 := jb1.keep hk13 (fun hs => by have h1 := ownk _ hs; have h2 := ltjAk _ hs; omega)
      have hb1lt := jb1.lt
      replace jb2 := jb2.keep hk13 (fun hs => by have h1 := ownk _ hs; have h2 := ltjAk _ hs; omega)
      have hb2lt := jb2.lt
      replace jb3 := jb3.keep hk13 (fun hs => by have h1 := ownk _ hs; have h2 := ltjAk _ hs; omega)
      have hb3lt := jb3.lt
      replace jb4 := jb4.keep hk13 (fun hs => by have h1 := ownk _ hs; have h2 := ltjAk _ hs; omega)
      have hb4lt := jb4.lt
      replace jb5 := jb5.keep hk13 (fun hs => by have h1 := ownk _ hs; have h2 := ltjAk _ hs; omega)
      have hb5lt := jb5.lt
      replace jAv := SlT.keep jAv hk13 (fun q hq hs => hdis q hs hq)
      replace jhK0 := Keep.fresh jhK0 hk13 (by intro i hi hs; first | exact hs | (exfalso; have h1 := ownk i hs; have h2 := ltjAk i hs; omega) | (have h1 := ownk i hs; have h2 := ltjAk i hs; show _ ∨ _; omega)); have hzjhK0 := Keep.size jhK0
      replace hfenb := Keep.fresh hfenb hk13 (by intro i hi hs; have h1 := ownk i hs; have h2 := ltjAk i hs; show _ ∨ _; omega); have hzhfenb := Keep.size hfenb
      have lt13 := SlT.lt hA13
      have hds15 : ∀ q, inA A13 q → ¬ inA Av q := fun q h1 h2 => by rcases own13x q h1 with h | h; exact hdis q h h2; (have h3 := ltjAv q h2; omega)
      refine GI_static [6, 4, 7, 8, 9] [(2, .pointer (some ⟨b1, 0, none⟩)), (3, .pointer (some ⟨b2, 0, none⟩)), (4, .pointer (some ⟨b3, 0, none⟩)), (5, .pointer (some ⟨b4, 0, none⟩)), (6, .pointer (some ⟨b5, 0, none⟩)), (17, .slice A13 ((((xs.take k).map (·.1)) ++ [x.1]).length) cap13), (19, .int .i64 x.2)] (by kernel_rfl) ?_
      refine GI_slit (E := 3) (zv := .int .i64 0) (sz := 1) (by_ := 8) 30 1 #[(0, (Operand.tmp 19))] [.int .i64 x.2] [.int .i64 x.2] (some 20) (by kernel_rfl) (by kernel_rfl) K14 (by kernel_rfl) (by kernel_rfl) (by omega) rfl (by omega) (by intro v hv; simp only [List.mem_cons, List.not_mem_nil, or_false] at hv; rcases hv with rfl <;> rfl) (by kernel_rfl) rfl ?_
      intro b16 w16 e16 hb16 k16 z16 K17
      replace jb1 := jb1.keep k16 (fun f => f)
      have hb1lt := jb1.lt
      replace jb2 := jb2.keep k16 (fun f => f)
      have hb2lt := jb2.lt
      replace jb3 := jb3.keep k16 (fun f => f)
      have hb3lt := jb3.lt
      replace jb4 := jb4.keep k16 (fun f => f)
      have hb4lt := jb4.lt
      replace jb5 := jb5.keep k16 (fun f => f)
      have hb5lt := jb5.lt
      replace jAv := SlT.keep0 jAv k16
      replace hA13 := SlT.keep0 hA13 k16
      replace jhK0 := Keep.tr jhK0 (Keep.ofNone k16); have hzjhK0 := Keep.size jhK0
      replace hfenb := Keep.tr hfenb (Keep.ofNone k16); have hzhfenb := Keep.size hfenb
      have hb16lt := hb16.lt
      refine GI_cell 30 (.tmp 6) 0 (.slice Av (((xs.take k).map (·.2)).length) capv) (some 18) (by kernel_rfl) (by kernel_rfl) (by kernel_rfl) qjb5 (by show ¬ (M1 ≤ b5); omega) (m := 1) (by kernel_rfl) rfl ?_
      refine GI_final 7 (by kernel_rfl) (by kernel_rfl) ?_
      refine OI_append (t := 30) (at2 := 30) (E := 3) (E2 := 3) (sz := 1) (by_ := 8) (zv := .int .i64 0) (m := ((xs.take k).map (·.2)).length) (k := 1) (.tmp 18) (.tmp 20) (.slice Av (((xs.take k).map (·.2)).length) capv) (.slice (some ⟨b16, 0, none⟩) 1 1) (some 21) (by kernel_rfl) (by kernel_rfl) (by kernel_rfl) (by kernel_rfl) (by kernel_rfl) (by kernel_rfl) (by kernel_rfl) (SlT.slr jAv) (slr_one hb16 (intc_len x.2)) (intc_one x.2) (by first | omega | (simp only [List.length_nil]; omega)) (by omega) (by first | omega | (simp only [List.length_nil]; omega)) (by omega) ?_
      intro v w18 hap
      obtain ⟨A18, cap18, rfl, hA18, hk18, own18x⟩ := app_one (f := intc) (xs := ((xs.take k).map (·.2))) (x := x.2) (A := Av) (cap := capv) hap (fun x _ => intc_len x) (intc_len _)
      have own18 : ∀ q, inA A18 q → M1 ≤ q := fun q hq => by rcases own18x q hq with h | h; exact ownv q h; (show M1 ≤ q; omega)
      replace jb1 := jb1.keep hk18 (fun hs => by have h1 := ownv _ hs; have h2 := ltjAv _ hs; omega)
      have hb1lt := jb1.lt
      replace jb2 := jb2.keep hk18 (fun hs => by have h1 := ownv _ hs; have h2 := ltjAv _ hs; omega)
      have hb2lt := jb2.lt
      replace jb3 := jb3.keep hk18 (fun hs => by have h1 := ownv _ hs; have h2 := ltjAv _ hs; omega)
      have hb3lt := jb3.lt
      replace jb4 := jb4.keep hk18 (fun hs => by have h1 := ownv _ hs; have h2 := ltjAv _ hs; omega)
      have hb4lt := jb4.lt
      replace jb5 := jb5.keep hk18 (fun hs => by have h1 := ownv _ hs; have h2 := ltjAv _ hs; omega)
      have hb5lt := jb5.lt
      replace hA13 := SlT.keep hA13 hk18 (fun q hq hs => (fun q h1 h2 => hds15 q h2 h1) q hs hq)
      replace jhK0 := Keep.fresh jhK0 hk18 (by intro i hi hs; first | exact hs | (exfalso; have h1 := ownv i hs; have h2 := ltjAv i hs; omega) | (have h1 := ownv i hs; have h2 := ltjAv i hs; show _ ∨ _; omega)); have hzjhK0 := Keep.size jhK0
      replace hfenb := Keep.fresh hfenb hk18 (by intro i hi hs; have h1 := ownv i hs; have h2 := ltjAv i hs; show _ ∨ _; omega); have hzhfenb := Keep.size hfenb
      have lt18 := SlT.lt hA18
      have hds19 : ∀ q, inA A13 q → ¬ inA A18 q := fun q h1 h2 => by rcases own18x q h2 with h | h; exact hds15 q h1 h; (have h3 := lt13 q h1; omega)
      refine OI_set (m := 1) (kd := false) 30 (.tmp 5) (.tmp 17) 0 (.slice A13 ((((xs.take k).map (·.1)) ++ [x.1]).length) cap13) [.slice A13 ((((xs.take k).map (·.1)) ++ [x.1]).length) cap13] none (by kernel_rfl) (by kernel_rfl) (by kernel_rfl) jb4 (by kernel_rfl) (by kernel_rfl) (by kernel_rfl) (Nat.le_of_ble_eq_true (by kernel_rfl)) (by simp [Value.oneCell']) ?_
      intro w20 hb4_23 hk21 hz22
      replace hb4_23 : Blk w20 b4 [.slice A13 ((((xs.take k).map (·.1)) ++ [x.1]).length) cap13] 30 := hb4_23
      replace jb1 := jb1.keep hk21 (by show ¬ (_ = _); omega)
      have hb1lt := jb1.lt
      replace jb2 := jb2.keep hk21 (by show ¬ (_ = _); omega)
      have hb2lt := jb2.lt
      replace jb3 := jb3.keep hk21 (by show ¬ (_ = _); omega)
      have hb3lt := jb3.lt
      replace jb5 := jb5.keep hk21 (by show ¬ (_ = _); omega)
      have hb5lt := jb5.lt
      replace hA13 := SlT.keep hA13 hk21 (fun q hq hs => by have hs : q = b4 := hs; have g0 := own13 q hq; have g1 := lt13 q hq; omega)
      replace hA18 := SlT.keep hA18 hk21 (fun q hq hs => by have hs : q = b4 := hs; have g0 := own18 q hq; have g1 := lt18 q hq; omega)
      replace jhK0 := Keep.fresh jhK0 hk21 (by intro i hi hs; first | exact hs | exact Or.inl hs | exact Or.inr hs | (exfalso; have hs2 : i = b4 := hs; omega)); have hzjhK0 := Keep.size jhK0
      replace hfenb := Keep.fresh hfenb hk21 (by intro i hi hs; have hs2 : i = b4 := hs; show _ ∨ _; omega); have hzhfenb := Keep.size hfenb
      refine OI_set (m := 1) (kd := false) 30 (.tmp 6) (.tmp 21) 0 (.slice A18 ((((xs.take k).map (·.2)) ++ [x.2]).length) cap18) [.slice A18 ((((xs.take k).map (·.2)) ++ [x.2]).length) cap18] none (by kernel_rfl) (by kernel_rfl) (by kernel_rfl) jb5 (by kernel_rfl) (by kernel_rfl) (by kernel_rfl) (Nat.le_of_ble_eq_true (by kernel_rfl)) (by simp [Value.oneCell']) ?_
      intro w24 hb5_27 hk25 hz26
      replace hb5_27 : Blk w24 b5 [.slice A18 ((((xs.take k).map (·.2)) ++ [x.2]).length) cap18] 30 := hb5_27
      replace jb1 := jb1.keep hk25 (by show ¬ (_ = _); omega)
      have hb1lt := jb1.lt
      replace jb2 := jb2.keep hk25 (by show ¬ (_ = _); omega)
      have hb2lt := jb2.lt
      replace jb3 := jb3.keep hk25 (by show ¬ (_ = _); omega)
      have hb3lt := jb3.lt
      replace hb4_23 := hb4_23.keep hk25 (by show ¬ (_ = _); omega)
      have hb4lt := hb4_23.lt
      replace hA13 := SlT.keep hA13 hk25 (fun q hq hs => by have hs : q = b5 := hs; have g0 := own13 q hq; have g1 := lt13 q hq; omega)
      replace hA18 := SlT.keep hA18 hk25 (fun q hq hs => by have hs : q = b5 := hs; have g0 := own18 q hq; have g1 := lt18 q hq; omega)
      replace jhK0 := Keep.fresh jhK0 hk25 (by intro i hi hs; first | exact hs | exact Or.inl hs | exact Or.inr hs | (exfalso; have hs2 : i = b5 := hs; omega)); have hzjhK0 := Keep.size jhK0
      replace hfenb := Keep.fresh hfenb hk25 (by intro i hi hs; have hs2 : i = b5 := hs; show _ ∨ _; omega); have hzhfenb := Keep.size hfenb
      refine OI_end rfl ?_
      refine X_then ?_
      refine V_seq ?_
      refine V_region ?_
      refine OI_cell 30 (.tmp 5) 0 (.slice A13 ((((xs.take k).map (·.1)) ++ [x.1]).length) cap13) (some 22) (by kernel_rfl) (by kernel_rfl) hb4_23 (m := 1) (by kernel_rfl) rfl ?_
      refine OI_static 3 [(2, .pointer (some ⟨b1, 0, none⟩)), (3, .pointer (some ⟨b2, 0, none⟩)), (4, .pointer (some ⟨b3, 0, none⟩)), (24, .bool (decide ((((((xs.take k).map (·.1)) ++ [x.1]).length : Nat) : Int) > 1000)))] (by kernel_rfl) ?_
      refine OI_end rfl ?_
      refine X_then ?_
      refine V_if ((((((xs.take k).map (·.1)) ++ [x.1]).length : Nat) : Int) > 1000) (by kernel_rfl) (fun hc28 => ?_) (fun hc28 => ?_)
      · skip
        exact (by simp only [List.length_append, List.length_cons, List.length_nil] at hc28; omega : False).elim
      · skip
        refine V_skip ?_
        refine X_block ?_
        exact fun a _ => ⟨hfenb, A13, cap13, A18, cap18, jb1, jb2, jb3, jhK0, by rw [hs1]; exact hb4_23, by rw [hs2]; exact hb5_27, by rw [hs1]; exact hA13, by rw [hs2]; exact hA18, own13, own18, hds19⟩
    · skip
      refine GI_static [2, 5, 6, 0, 3, 4, 7, 8, 9] [(2, .pointer (some ⟨b1, 0, none⟩)), (3, .pointer (some ⟨b2, 0, none⟩)), (4, .pointer (some ⟨b3, 0, none⟩)), (5, .pointer (some ⟨b4, 0, none⟩)), (6, .pointer (some ⟨b5, 0, none⟩)), (8, .int .i64 x.2), (15, .int .i64 x.1)] (by kernel_rfl) ?_
      refine GI_slit (E := 3) (zv := .int .i64 0) (sz := 1) (by_ := 8) 30 1 #[(0, (Operand.tmp 15))] [.int .i64 x.1] [.int .i64 x.1] (some 16) (by kernel_rfl) (by kernel_rfl) K10 (by kernel_rfl) (by kernel_rfl) (by omega) rfl (by omega) (by intro v hv; simp only [List.mem_cons, List.not_mem_nil, or_false] at hv; rcases hv with rfl <;> rfl) (by kernel_rfl) rfl ?_
      intro b29 w29 e29 hb29 k29 z29 K30
      replace jb1 := jb1.keep k29 (fun f => f)
      have hb1lt := jb1.lt
      replace jb2 := jb2.keep k29 (fun f => f)
      have hb2lt := jb2.lt
      replace jb3 := jb3.keep k29 (fun f => f)
      have hb3lt := jb3.lt
      replace jb4 := jb4.keep k29 (fun f => f)
      have hb4lt := jb4.lt
      replace jb5 := jb5.keep k29 (fun f => f)
      have hb5lt := jb5.lt
      replace jAk := SlT.keep0 jAk k29
      replace jAv := SlT.keep0 jAv k29
      replace jhK0 := Keep.tr jhK0 (Keep.ofNone k29); have hzjhK0 := Keep.size jhK0
      replace hfenb := Keep.tr hfenb (Keep.ofNone k29); have hzhfenb := Keep.size hfenb
      have hb29lt := hb29.lt
      refine GI_static [6, 0, 3, 4, 7, 8, 9] [(2, .pointer (some ⟨b1, 0, none⟩)), (3, .pointer (some ⟨b2, 0, none⟩)), (4, .pointer (some ⟨b3, 0, none⟩)), (5, .pointer (some ⟨b4, 0, none⟩)), (6, .pointer (some ⟨b5, 0, none⟩)), (16, .slice (some ⟨b29, 0, none⟩) 1 1), (19, .int .i64 x.2)] (by kernel_rfl) ?_
      refine GI_slit (E := 3) (zv := .int .i64 0) (sz := 1) (by_ := 8) 30 1 #[(0, (Operand.tmp 19))] [.int .i64 x.2] [.int .i64 x.2] (some 20) (by kernel_rfl) (by kernel_rfl) K30 (by kernel_rfl) (by kernel_rfl) (by omega) rfl (by omega) (by intro v hv; simp only [List.mem_cons, List.not_mem_nil, or_false] at hv; rcases hv with rfl <;> rfl) (by kernel_rfl) rfl ?_
      intro b31 w31 e31 hb31 k31 z31 K32
      replace jb1 := jb1.keep k31 (fun f => f)
      have hb1lt := jb1.lt
      replace jb2 := jb2.keep k31 (fun f => f)
      have hb2lt := jb2.lt
      replace jb3 := jb3.keep k31 (fun f => f)
      have hb3lt := jb3.lt
      replace jb4 := jb4.keep k31 (fun f => f)
      have hb4lt := jb4.lt
      replace jb5 := jb5.keep k31 (fun f => f)
      have hb5lt := jb5.lt
      replace hb29 := hb29.keep k31 (fun f => f)
      have hb29lt := hb29.lt
      replace jAk := SlT.keep0 jAk k31
      replace jAv := SlT.keep0 jAv k31
      replace jhK0 := Keep.tr jhK0 (Keep.ofNone k31); have hzjhK0 := Keep.size jhK0
      replace hfenb := Keep.tr hfenb (Keep.ofNone k31); have hzhfenb := Keep.size hfenb
      have hb31lt := hb31.lt
      refine GI_cell 30 (.tmp 5) 0 (.slice Ak (((xs.take k).map (·.1)).length) capk) (some 14) (by kernel_rfl) (by kernel_rfl) (by kernel_rfl) qjb4 (by show ¬ (M1 ≤ b4); omega) (m := 1) (by kernel_rfl) rfl ?_
      refine GI_append (t := 30) (at2 := 30) (E := 3) (E2 := 3) (sz := 1) (by_ := 8) (zv := .int .i64 0) (m := ((xs.take k).map (·.1)).length) (k := 1) (.tmp 14) (.tmp 16) (.slice Ak (((xs.take k).map (·.1)).length) capk) (.slice (some ⟨b29, 0, none⟩) 1 1) (some 17) (by kernel_rfl) (by kernel_rfl) (by kernel_rfl) (by kernel_rfl) (by kernel_rfl) (by kernel_rfl) (by kernel_rfl) (by kernel_rfl) (SlT.slr jAk) (slr_one hb29 (intc_len x.1)) (intc_one x.1) (by first | omega | (simp only [List.length_nil]; omega)) (by omega) (by first | omega | (simp only [List.length_nil]; omega)) (by omega) ?_
      intro v w33 hap
      obtain ⟨A33, cap33, rfl, hA33, hk33, own33x⟩ := app_one (f := intc) (xs := ((xs.take k).map (·.1))) (x := x.1) (A := Ak) (cap := capk) hap (fun x _ => intc_len x) (intc_len _)
      have own33 : ∀ q, inA A33 q → M1 ≤ q := fun q hq => by rcases own33x q hq with h | h; exact ownk q h; (show M1 ≤ q; omega)
      refine ⟨Keep.fresh K32 hk33 (by intro i hi hs; have h1 := ownk i hs; have h2 := ltjAk i hs; show M1 ≤ i; omega), ?_⟩
      have K34 := Keep.fresh K32 hk33 (by intro i hi hs; have h1 := ownk i hs; have h2 := ltjAk i hs; show M1 ≤ i; omega)
      replace jb1 := jb1.keep hk33 (fun hs => by have h1 := ownk _ hs; have h2 := ltjAk _ hs; omega)
      have hb1lt := jb1.lt
      replace jb2 := jb2.keep hk33 (fun hs => by have h1 := ownk _ hs; have h2 := ltjAk _ hs; omega)
      have hb2lt := jb2.lt
      replace jb3 := jb3.keep hk33 (fun hs => by have h1 := ownk _ hs; have h2 := ltjAk _ hs; omega)
      have hb3lt := jb3.lt
      replace jb4 := jb4.keep hk33 (fun hs => by have h1 := ownk _ hs; have h2 := ltjAk _ hs; omega)
      have hb4lt := jb4.lt
      replace jb5 := jb5.keep hk33 (fun hs => by have h1 := ownk _ hs; have h2 := ltjAk _ hs; omega)
      have hb5lt := jb5.lt
      replace hb31 := hb31.keep hk33 (fun hs => by have h1 := ownk _ hs; have h2 := ltjAk _ hs; omega)
      have hb31lt := hb31.lt
      replace jAv := SlT.keep jAv hk33 (fun q hq hs => hdis q hs hq)
      replace jhK0 := Keep.fresh jhK0 hk33 (by intro i hi hs; first | exact hs | (exfalso; have h1 := ownk i hs; have h2 := ltjAk i hs; omega) | (have h1 := ownk i hs; have h2 := ltjAk i hs; show _ ∨ _; omega)); have hzjhK0 := Keep.size jhK0
      replace hfenb := Keep.fresh hfenb hk33 (by intro i hi hs; have h1 := ownk i hs; have h2 := ltjAk i hs; show _ ∨ _; omega); have hzhfenb := Keep.size hfenb
      have lt33 := SlT.lt hA33
      have hds35 : ∀ q, inA A33 q → ¬ inA Av q := fun q h1 h2 => by rcases own33x q h1 with h | h; exact hdis q h h2; (have h3 := ltjAv q h2; omega)
      refine GI_cell 30 (.tmp 6) 0 (.slice Av (((xs.take k).map (·.2)).length) capv) (some 18) (by kernel_rfl) (by kernel_rfl) (by kernel_rfl) qjb5 (by show ¬ (M1 ≤ b5); omega) (m := 1) (by kernel_rfl) rfl ?_
      refine GI_final 7 (by kernel_rfl) (by kernel_rfl) ?_
      refine OI_append (t := 30) (at2 := 30) (E := 3) (E2 := 3) (sz := 1) (by_ := 8) (zv := .int .i64 0) (m := ((xs.take k).map (·.2)).length) (k := 1) (.tmp 18) (.tmp 20) (.slice Av (((xs.take k).map (·.2)).length) capv) (.slice (some ⟨b31, 0, none⟩) 1 1) (some 21) (by kernel_rfl) (by kernel_rfl) (by kernel_rfl) (by kernel_rfl) (by kernel_rfl) (by kernel_rfl) (by kernel_rfl) (SlT.slr jAv) (slr_one hb31 (intc_len x.2)) (intc_one x.2) (by first | omega | (simp only [List.length_nil]; omega)) (by omega) (by first | omega | (simp only [List.length_nil]; omega)) (by omega) ?_
      intro v w36 hap
      obtain ⟨A36, cap36, rfl, hA36, hk36, own36x⟩ := app_one (f := intc) (xs := ((xs.take k).map (·.2))) (x := x.2) (A := Av) (cap := capv) hap (fun x _ => intc_len x) (intc_len _)
      have own36 : ∀ q, inA A36 q → M1 ≤ q := fun q hq => by rcases own36x q hq with h | h; exact ownv q h; (show M1 ≤ q; omega)
      replace jb1 := jb1.keep hk36 (fun hs => by have h1 := ownv _ hs; have h2 := ltjAv _ hs; omega)
      have hb1lt := jb1.lt
      replace jb2 := jb2.keep hk36 (fun hs => by have h1 := ownv _ hs; have h2 := ltjAv _ hs; omega)
      have hb2lt := jb2.lt
      replace jb3 := jb3.keep hk36 (fun hs => by have h1 := ownv _ hs; have h2 := ltjAv _ hs; omega)
      have hb3lt := jb3.lt
      replace jb4 := jb4.keep hk36 (fun hs => by have h1 := ownv _ hs; have h2 := ltjAv _ hs; omega)
      have hb4lt := jb4.lt
      replace jb5 := jb5.keep hk36 (fun hs => by have h1 := ownv _ hs; have h2 := ltjAv _ hs; omega)
      have hb5lt := jb5.lt
      replace hA33 := SlT.keep hA33 hk36 (fun q hq hs => (fun q h1 h2 => hds35 q h2 h1) q hs hq)
      replace jhK0 := Keep.fresh jhK0 hk36 (by intro i hi hs; first | exact hs | (exfalso; have h1 := ownv i hs; have h2 := ltjAv i hs; omega) | (have h1 := ownv i hs; have h2 := ltjAv i hs; show _ ∨ _; omega)); have hzjhK0 := Keep.size jhK0
      replace hfenb := Keep.fresh hfenb hk36 (by intro i hi hs; have h1 := ownv i hs; have h2 := ltjAv i hs; show _ ∨ _; omega); have hzhfenb := Keep.size hfenb
      have lt36 := SlT.lt hA36
      have hds37 : ∀ q, inA A33 q → ¬ inA A36 q := fun q h1 h2 => by rcases own36x q h2 with h | h; exact hds35 q h1 h; (have h3 := lt33 q h1; omega)
      refine OI_set (m := 1) (kd := false) 30 (.tmp 5) (.tmp 17) 0 (.slice A33 ((((xs.take k).map (·.1)) ++ [x.1]).length) cap33) [.slice A33 ((((xs.take k).map (·.1)) ++ [x.1]).length) cap33] none (by kernel_rfl) (by kernel_rfl) (by kernel_rfl) jb4 (by kernel_rfl) (by kernel_rfl) (by kernel_rfl) (Nat.le_of_ble_eq_true (by kernel_rfl)) (by simp [Value.oneCell']) ?_
      intro w38 hb4_41 hk39 hz40
      replace hb4_41 : Blk w38 b4 [.slice A33 ((((xs.take k).map (·.1)) ++ [x.1]).length) cap33] 30 := hb4_41
      replace jb1 := jb1.keep hk39 (by show ¬ (_ = _); omega)
      have hb1lt := jb1.lt
      replace jb2 := jb2.keep hk39 (by show ¬ (_ = _); omega)
      have hb2lt := jb2.lt
      replace jb3 := jb3.keep hk39 (by show ¬ (_ = _); omega)
      have hb3lt := jb3.lt
      replace jb5 := jb5.keep hk39 (by show ¬ (_ = _); omega)
      have hb5lt := jb5.lt
      replace hA33 := SlT.keep hA33 hk39 (fun q hq hs => by have hs : q = b4 := hs; have g0 := own33 q hq; have g1 := lt33 q hq; omega)
      replace hA36 := SlT.keep hA36 hk39 (fun q hq hs => by have hs : q = b4 := hs; have g0 := own36 q hq; have g1 := lt36 q hq; omega)
      replace jhK0 := Keep.fresh jhK0 hk39 (by intro i hi hs; first | exact hs | exact Or.inl hs | exact Or.inr hs | (exfalso; have hs2 : i = b4 := hs; omega)); have hzjhK0 := Keep.size jhK0
      replace hfenb := Keep.fresh hfenb hk39 (by intro i hi hs; have hs2 : i = b4 := hs; show _ ∨ _; omega); have hzhfenb := Keep.size hfenb
      refine OI_set (m := 1) (kd := false) 30 (.tmp 6) (.tmp 21) 0 (.slice A36 ((((xs.take k).map (·.2)) ++ [x.2]).length) cap36) [.slice A36 ((((xs.take k).map (·.2)) ++ [x.2]).length) cap36] none (by kernel_rfl) (by kernel_rfl) (by kernel_rfl) jb5 (by kernel_rfl) (by kernel_rfl) (by kernel_rfl) (Nat.le_of_ble_eq_true (by kernel_rfl)) (by simp [Value.oneCell']) ?_
      intro w42 hb5_45 hk43 hz44
      replace hb5_45 : Blk w42 b5 [.slice A36 ((((xs.take k).map (·.2)) ++ [x.2]).length) cap36] 30 := hb5_45
      replace jb1 := jb1.keep hk43 (by show ¬ (_ = _); omega)
      have hb1lt := jb1.lt
      replace jb2 := jb2.keep hk43 (by show ¬ (_ = _); omega)
      have hb2lt := jb2.lt
      replace jb3 := jb3.keep hk43 (by show ¬ (_ = _); omega)
      have hb3lt := jb3.lt
      replace hb4_41 := hb4_41.keep hk43 (by show ¬ (_ = _); omega)
      have hb4lt := hb4_41.lt
      replace hA33 := SlT.keep hA33 hk43 (fun q hq hs => by have hs : q = b5 := hs; have g0 := own33 q hq; have g1 := lt33 q hq; omega)
      replace hA36 := SlT.keep hA36 hk43 (fun q hq hs => by have hs : q = b5 := hs; have g0 := own36 q hq; have g1 := lt36 q hq; omega)
      replace jhK0 := Keep.fresh jhK0 hk43 (by intro i hi hs; first | exact hs | exact Or.inl hs | exact Or.inr hs | (exfalso; have hs2 : i = b5 := hs; omega)); have hzjhK0 := Keep.size jhK0
      replace hfenb := Keep.fresh hfenb hk43 (by intro i hi hs; have hs2 : i = b5 := hs; show _ ∨ _; omega); have hzhfenb := Keep.size hfenb
      refine OI_end rfl ?_
      refine X_then ?_
      refine V_seq ?_
      refine V_region ?_
      refine OI_cell 30 (.tmp 5) 0 (.slice A33 ((((xs.take k).map (·.1)) ++ [x.1]).length) cap33) (some 22) (by kernel_rfl) (by kernel_rfl) hb4_41 (m := 1) (by kernel_rfl) rfl ?_
      refine OI_static 3 [(2, .pointer (some ⟨b1, 0, none⟩)), (3, .pointer (some ⟨b2, 0, none⟩)), (4, .pointer (some ⟨b3, 0, none⟩)), (24, .bool (decide ((((((xs.take k).map (·.1)) ++ [x.1]).length : Nat) : Int) > 1000)))] (by kernel_rfl) ?_
      refine OI_end rfl ?_
      refine X_then ?_
      refine V_if ((((((xs.take k).map (·.1)) ++ [x.1]).length : Nat) : Int) > 1000) (by kernel_rfl) (fun hc46 => ?_) (fun hc46 => ?_)
      · skip
        exact (by simp only [List.length_append, List.length_cons, List.length_nil] at hc46; omega : False).elim
      · skip
        refine V_skip ?_
        refine X_block ?_
        exact fun a _ => ⟨hfenb, A33, cap33, A36, cap36, jb1, jb2, jb3, jhK0, by rw [hs1]; exact hb4_41, by rw [hs2]; exact hb5_45, by rw [hs1]; exact hA33, by rw [hs2]; exact hA36, own33, own36, hds37⟩
    · skip
      refine GI_static [6, 1, 2, 0, 3, 4, 7, 8, 9] [(2, .pointer (some ⟨b1, 0, none⟩)), (3, .pointer (some ⟨b2, 0, none⟩)), (4, .pointer (some ⟨b3, 0, none⟩)), (5, .pointer (some ⟨b4, 0, none⟩)), (6, .pointer (some ⟨b5, 0, none⟩)), (7, .int .i64 x.1), (19, .int .i64 x.2)] (by kernel_rfl) ?_
      refine GI_slit (E := 3) (zv := .int .i64 0) (sz := 1) (by_ := 8) 30 1 #[(0, (Operand.tmp 19))] [.int .i64 x.2] [.int .i64 x.2] (some 20) (by kernel_rfl) (by kernel_rfl) K10 (by kernel_rfl) (by kernel_rfl) (by omega) rfl (by omega) (by intro v hv; simp only [List.mem_cons, List.not_mem_nil, or_false] at hv; rcases hv with rfl <;> rfl) (by kernel_rfl) rfl ?_
      intro b47 w47 e47 hb47 k47 z47 K48
      replace jb1 := jb1.keep k47 (fun f => f)
      have hb1lt := jb1.lt
      replace jb2 := jb2.keep k47 (fun f => f)
      have hb2lt := jb2.lt
      replace jb3 := jb3.keep k47 (fun f => f)
      have hb3lt := jb3.lt
      replace jb4 := jb4.keep k47 (fun f => f)
      have hb4lt := jb4.lt
      replace jb5 := jb5.keep k47 (fun f => f)
      have hb5lt := jb5.lt
      replace jAk := SlT.keep0 jAk k47
      replace jAv := SlT.keep0 jAv k47
      replace jhK0 := Keep.tr jhK0 (Keep.ofNone k47); have hzjhK0 := Keep.size jhK0
      replace hfenb := Keep.tr hfenb (Keep.ofNone k47); have hzhfenb := Keep.size hfenb
      have hb47lt := hb47.lt
      refine GI_static [2, 0, 3, 4, 7, 8, 9] [(2, .pointer (some ⟨b1, 0, none⟩)), (3, .pointer (some ⟨b2, 0, none⟩)), (4, .pointer (some ⟨b3, 0, none⟩)), (5, .pointer (some ⟨b4, 0, none⟩)), (6, .pointer (some ⟨b5, 0, none⟩)), (15, .int .i64 x.1), (20, .slice (some ⟨b47, 0, none⟩) 1 1)] (by kernel_rfl) ?_
      refine GI_slit (E := 3) (zv := .int .i64 0) (sz := 1) (by_ := 8) 30 1 #[(0, (Operand.tmp 15))] [.int .i64 x.1] [.int .i64 x.1] (some 16) (by kernel_rfl) (by kernel_rfl) K48 (by kernel_rfl) (by kernel_rfl) (by omega) rfl (by omega) (by intro v hv; simp only [List.mem_cons, List.not_mem_nil, or_false] at hv; rcases hv with rfl <;> rfl) (by kernel_rfl) rfl ?_
      intro b49 w49 e49 hb49 k49 z49 K50
      replace jb1 := jb1.keep k49 (fun f => f)
      have hb1lt := jb1.lt
      replace jb2 := jb2.keep k49 (fun f => f)
      have hb2lt := jb2.lt
      replace jb3 := jb3.keep k49 (fun f => f)
      have hb3lt := jb3.lt
      replace jb4 := jb4.keep k49 (fun f => f)
      have hb4lt := jb4.lt
      replace jb5 := jb5.keep k49 (fun f => f)
      have hb5lt := jb5.lt
      replace hb47 := hb47.keep k49 (fun f => f)
      have hb47lt := hb47.lt
      replace jAk := SlT.keep0 jAk k49
      replace jAv := SlT.keep0 jAv k49
      replace jhK0 := Keep.tr jhK0 (Keep.ofNone k49); have hzjhK0 := Keep.size jhK0
      replace hfenb := Keep.tr hfenb (Keep.ofNone k49); have hzhfenb := Keep.size hfenb
      have hb49lt := hb49.lt
      refine GI_cell 30 (.tmp 5) 0 (.slice Ak (((xs.take k).map (·.1)).length) capk) (some 14) (by kernel_rfl) (by kernel_rfl) (by kernel_rfl) qjb4 (by show ¬ (M1 ≤ b4); omega) (m := 1) (by kernel_rfl) rfl ?_
      refine GI_append (t := 30) (at2 := 30) (E := 3) (E2 := 3) (sz := 1) (by_ := 8) (zv := .int .i64 0) (m := ((xs.take k).map (·.1)).length) (k := 1) (.tmp 14) (.tmp 16) (.slice Ak (((xs.take k).map (·.1)).length) capk) (.slice (some ⟨b49, 0, none⟩) 1 1) (some 17) (by kernel_rfl) (by kernel_rfl) (by kernel_rfl) (by kernel_rfl) (by kernel_rfl) (by kernel_rfl) (by kernel_rfl) (by kernel_rfl) (SlT.slr jAk) (slr_one hb49 (intc_len x.1)) (intc_one x.1) (by first | omega | (simp only [List.length_nil]; omega)) (by omega) (by first | omega | (simp only [List.length_nil]; omega)) (by omega) ?_
      intro v w51 hap
      obtain ⟨A51, cap51, rfl, hA51, hk51, own51x⟩ := app_one (f := intc) (xs := ((xs.take k).map (·.1))) (x := x.1) (A := Ak) (cap := capk) hap (fun x _ => intc_len x) (intc_len _)
      have own51 : ∀ q, inA A51 q → M1 ≤ q := fun q hq => by rcases own51x q hq with h | h; exact ownk q h; (show M1 ≤ q; omega)
      refine ⟨Keep.fresh K50 hk51 (by intro i hi hs; have h1 := ownk i hs; have h2 := ltjAk i hs; show M1 ≤ i; omega), ?_⟩
      have K52 := Keep.fresh K50 hk51 (by intro i hi hs; have h1 := ownk i hs; have h2 := ltjAk i hs; show M1 ≤ i; omega)
      replace jb1 := jb1.keep hk51 (fun hs => by have h1 := ownk _ hs; have h2 := ltjAk _ hs; omega)
      have hb1lt := jb1.lt
      replace jb2 := jb2.keep hk51 (fun hs => by have h1 := ownk _ hs; have h2 := ltjAk _ hs; omega)
      have hb2lt := jb2.lt
      replace jb3 := jb3.keep hk51 (fun hs => by have h1 := ownk _ hs; have h2 := ltjAk _ hs; omega)
      have hb3lt := jb3.lt
      replace jb4 := jb4.keep hk51 (fun hs => by have h1 := ownk _ hs; have h2 := ltjAk _ hs; omega)
      have hb4lt := jb4.lt
      replace jb5 := jb5.keep hk51 (fun hs => by have h1 := ownk _ hs; have h2 := ltjAk _ hs; omega)
      have hb5lt := jb5.lt
      replace hb47 := hb47.keep hk51 (fun hs => by have h1 := ownk _ hs; have h2 := ltjAk _ hs; omega)
      have hb47lt := hb47.lt
      replace jAv := SlT.keep jAv hk51 (fun q hq hs => hdis q hs hq)
      replace jhK0 := Keep.fresh jhK0 hk51 (by intro i hi hs; first | exact hs | (exfalso; have h1 := ownk i hs; have h2 := ltjAk i hs; omega) | (have h1 := ownk i hs; have h2 := ltjAk i hs; show _ ∨ _; omega)); have hzjhK0 := Keep.size jhK0
      replace hfenb := Keep.fresh hfenb hk51 (by intro i hi hs; have h1 := ownk i hs; have h2 := ltjAk i hs; show _ ∨ _; omega); have hzhfenb := Keep.size hfenb
      have lt51 := SlT.lt hA51
      have hds53 : ∀ q, inA A51 q → ¬ inA Av q := fun q h1 h2 => by rcases own51x q h1 with h | h; exact hdis q h h2; (have h3 := ltjAv q h2; omega)
      refine GI_cell 30 (.tmp 6) 0 (.slice Av (((xs.take k).map (·.2)).length) capv) (some 18) (by kernel_rfl) (by kernel_rfl) (by kernel_rfl) qjb5 (by show ¬ (M1 ≤ b5); omega) (m := 1) (by kernel_rfl) rfl ?_
      refine GI_final 7 (by kernel_rfl) (by kernel_rfl) ?_
      refine OI_append (t := 30) (at2 := 30) (E := 3) (E2 := 3) (sz := 1) (by_ := 8) (zv := .int .i64 0) (m := ((xs.take k).map (·.2)).length) (k := 1) (.tmp 18) (.tmp 20) (.slice Av (((xs.take k).map (·.2)).length) capv) (.slice (some ⟨b47, 0, none⟩) 1 1) (some 21) (by kernel_rfl) (by kernel_rfl) (by kernel_rfl) (by kernel_rfl) (by kernel_rfl) (by kernel_rfl) (by kernel_rfl) (SlT.slr jAv) (slr_one hb47 (intc_len x.2)) (intc_one x.2) (by first | omega | (simp only [List.length_nil]; omega)) (by omega) (by first | omega | (simp only [List.length_nil]; omega)) (by omega) ?_
      intro v w54 hap
      obtain ⟨A54, cap54, rfl, hA54, hk54, own54x⟩ := app_one (f := intc) (xs := ((xs.take k).map (·.2))) (x := x.2) (A := Av) (cap := capv) hap (fun x _ => intc_len x) (intc_len _)
      have own54 : ∀ q, inA A54 q → M1 ≤ q := fun q hq => by rcases own54x q hq with h | h; exact ownv q h; (show M1 ≤ q; omega)
      replace jb1 := jb1.keep hk54 (fun hs => by have h1 := ownv _ hs; have h2 := ltjAv _ hs; omega)
      have hb1lt := jb1.lt
      replace jb2 := jb2.keep hk54 (fun hs => by have h1 := ownv _ hs; have h2 := ltjAv _ hs; omega)
      have hb2lt := jb2.lt
      replace jb3 := jb3.keep hk54 (fun hs => by have h1 := ownv _ hs; have h2 := ltjAv _ hs; omega)
      have hb3lt := jb3.lt
      replace jb4 := jb4.keep hk54 (fun hs => by have h1 := ownv _ hs; have h2 := ltjAv _ hs; omega)
      have hb4lt := jb4.lt
      replace jb5 := jb5.keep hk54 (fun hs => by have h1 := ownv _ hs; have h2 := ltjAv _ hs; omega)
      have hb5lt := jb5.lt
      replace hA51 := SlT.keep hA51 hk54 (fun q hq hs => (fun q h1 h2 => hds53 q h2 h1) q hs hq)
      replace jhK0 := Keep.fresh jhK0 hk54 (by intro i hi hs; first | exact hs | (exfalso; have h1 := ownv i hs; have h2 := ltjAv i hs; omega) | (have h1 := ownv i hs; have h2 := ltjAv i hs; show _ ∨ _; omega)); have hzjhK0 := Keep.size jhK0
      replace hfenb := Keep.fresh hfenb hk54 (by intro i hi hs; have h1 := ownv i hs; have h2 := ltjAv i hs; show _ ∨ _; omega); have hzhfenb := Keep.size hfenb
      have lt54 := SlT.lt hA54
      have hds55 : ∀ q, inA A51 q → ¬ inA A54 q := fun q h1 h2 => by rcases own54x q h2 with h | h; exact hds53 q h1 h; (have h3 := lt51 q h1; omega)
      refine OI_set (m := 1) (kd := false) 30 (.tmp 5) (.tmp 17) 0 (.slice A51 ((((xs.take k).map (·.1)) ++ [x.1]).length) cap51) [.slice A51 ((((xs.take k).map (·.1)) ++ [x.1]).length) cap51] none (by kernel_rfl) (by kernel_rfl) (by kernel_rfl) jb4 (by kernel_rfl) (by kernel_rfl) (by kernel_rfl) (Nat.le_of_ble_eq_true (by kernel_rfl)) (by simp [Value.oneCell']) ?_
      intro w56 hb4_59 hk57 hz58
      replace hb4_59 : Blk w56 b4 [.slice A51 ((((xs.take k).map (·.1)) ++ [x.1]).length) cap51] 30 := hb4_59
      replace jb1 := jb1.keep hk57 (by show ¬ (_ = _); omega)
      have hb1lt := jb1.lt
      replace jb2 := jb2.keep hk57 (by show ¬ (_ = _); omega)
      have hb2lt := jb2.lt
      replace jb3 := jb3.keep hk57 (by show ¬ (_ = _); omega)
      have hb3lt := jb3.lt
      replace jb5 := jb5.keep hk57 (by show ¬ (_ = _); omega)
      have hb5lt := jb5.lt
      replace hA51 := SlT.keep hA51 hk57 (fun q hq hs => by have hs : q = b4 := hs; have g0 := own51 q hq; have g1 := lt51 q hq; omega)
      replace hA54 := SlT.keep hA54 hk57 (fun q hq hs => by have hs : q = b4 := hs; have g0 := own54 q hq; have g1 := lt54 q hq; omega)
      replace jhK0 := Keep.fresh jhK0 hk57 (by intro i hi hs; first | exact hs | exact Or.inl hs | exact Or.inr hs | (exfalso; have hs2 : i = b4 := hs; omega)); have hzjhK0 := Keep.size jhK0
      replace hfenb := Keep.fresh hfenb hk57 (by intro i hi hs; have hs2 : i = b4 := hs; show _ ∨ _; omega); have hzhfenb := Keep.size hfenb
      refine OI_set (m := 1) (kd := false) 30 (.tmp 6) (.tmp 21) 0 (.slice A54 ((((xs.take k).map (·.2)) ++ [x.2]).length) cap54) [.slice A54 ((((xs.take k).map (·.2)) ++ [x.2]).length) cap54] none (by kernel_rfl) (by kernel_rfl) (by kernel_rfl) jb5 (by kernel_rfl) (by kernel_rfl) (by kernel_rfl) (Nat.le_of_ble_eq_true (by kernel_rfl)) (by simp [Value.oneCell']) ?_
      intro w60 hb5_63 hk61 hz62
      replace hb5_63 : Blk w60 b5 [.slice A54 ((((xs.take k).map (·.2)) ++ [x.2]).length) cap54] 30 := hb5_63
      replace jb1 := jb1.keep hk61 (by show ¬ (_ = _); omega)
      have hb1lt := jb1.lt
      replace jb2 := jb2.keep hk61 (by show ¬ (_ = _); omega)
      have hb2lt := jb2.lt
      replace jb3 := jb3.keep hk61 (by show ¬ (_ = _); omega)
      have hb3lt := jb3.lt
      replace hb4_59 := hb4_59.keep hk61 (by show ¬ (_ = _); omega)
      have hb4lt := hb4_59.lt
      replace hA51 := SlT.keep hA51 hk61 (fun q hq hs => by have hs : q = b5 := hs; have g0 := own51 q hq; have g1 := lt51 q hq; omega)
      replace hA54 := SlT.keep hA54 hk61 (fun q hq hs => by have hs : q = b5 := hs; have g0 := own54 q hq; have g1 := lt54 q hq; omega)
      replace jhK0 := Keep.fresh jhK0 hk61 (by intro i hi hs; first | exact hs | exact Or.inl hs | exact Or.inr hs | (exfalso; have hs2 : i = b5 := hs; omega)); have hzjhK0 := Keep.size jhK0
      replace hfenb := Keep.fresh hfenb hk61 (by intro i hi hs; have hs2 : i = b5 := hs; show _ ∨ _; omega); have hzhfenb := Keep.size hfenb
      refine OI_end rfl ?_
      refine X_then ?_
      refine V_seq ?_
      refine V_region ?_
      refine OI_cell 30 (.tmp 5) 0 (.slice A51 ((((xs.take k).map (·.1)) ++ [x.1]).length) cap51) (some 22) (by kernel_rfl) (by kernel_rfl) hb4_59 (m := 1) (by kernel_rfl) rfl ?_
      refine OI_static 3 [(2, .pointer (some ⟨b1, 0, none⟩)), (3, .pointer (some ⟨b2, 0, none⟩)), (4, .pointer (some ⟨b3, 0, none⟩)), (24, .bool (decide ((((((xs.take k).map (·.1)) ++ [x.1]).length : Nat) : Int) > 1000)))] (by kernel_rfl) ?_
      refine OI_end rfl ?_
      refine X_then ?_
      refine V_if ((((((xs.take k).map (·.1)) ++ [x.1]).length : Nat) : Int) > 1000) (by kernel_rfl) (fun hc64 => ?_) (fun hc64 => ?_)
      · skip
        exact (by simp only [List.length_append, List.length_cons, List.length_nil] at hc64; omega : False).elim
      · skip
        refine V_skip ?_
        refine X_block ?_
        exact fun a _ => ⟨hfenb, A51, cap51, A54, cap54, jb1, jb2, jb3, jhK0, by rw [hs1]; exact hb4_59, by rw [hs2]; exact hb5_63, by rw [hs1]; exact hA51, by rw [hs2]; exact hA54, own51, own54, hds55⟩
  · skip
    intro D M1 W hD hM ⟨Ak, capk, Av, capv, jb1, jb2, jb3, jhK0, jb4, jb5, jAk, jAv, ownk, ownv, hdis⟩ hDD
    have hzjhK0 := Keep.size jhK0
    have hb1lt := jb1.lt
    have hb2lt := jb2.lt
    have hb3lt := jb3.lt
    have hb4lt := jb4.lt
    have hb5lt := jb5.lt
    have ltjAk := SlT.lt jAk
    have ltjAv := SlT.lt jAv
    rw [List.take_length] at jAk jAv jb4 jb5
    rw [List.length_map] at jb4 jb5
    refine X_block ?_
    refine X_then ?_
    refine V_seq ?_
    refine V_draws (acts [2, 3, 4]) (fun q => q = b1 ∨ q = b2 ∨ q = b3) [[0, 2, 1, 3, 4]] (by kernel_rfl) (by repeat first | exact (by first | exact sure_postM | exact sure_rQ2 | exact sure_no | exact sure_body (by rintro _ _ ⟨h, _⟩; exact ⟨_, h⟩)) | refine sure_then ?_ | refine sure_block ?_ | refine sure_join ?_) (by kernel_rfl) ?_
    intro w66 hk65 he67 L hL68
    replace jb1 := jb1.keep hk65 (fun f => f)
    have hb1lt := jb1.lt
    replace jb2 := jb2.keep hk65 (fun f => f)
    have hb2lt := jb2.lt
    replace jb3 := jb3.keep hk65 (fun f => f)
    have hb3lt := jb3.lt
    replace jb4 := jb4.keep hk65 (fun f => f)
    have hb4lt := jb4.lt
    replace jb5 := jb5.keep hk65 (fun f => f)
    have hb5lt := jb5.lt
    replace jAk := SlT.keep0 jAk hk65
    replace jAv := SlT.keep0 jAv hk65
    replace jhK0 := Keep.tr jhK0 (Keep.ofNone hk65); have hzjhK0 := Keep.size jhK0
    replace hDD := (Keep.block hk65 _ (Array.getElem?_eq_some_iff.1 hDD).1 (fun f => f)).trans hDD
    have qjb1 := jb1
    have qjb2 := jb2
    have qjb3 := jb3
    have qjb4 := jb4
    have qjb5 := jb5
    have K69 : Keep (fun q => q = b1 ∨ q = b2 ∨ q = b3) w66 w66 := Keep.refl _ _
    obtain rfl := List.mem_singleton.1 hL68
    refine GI_cell 30 (.tmp 5) 0 (.slice Ak xs.length capk) (some 25) (by kernel_rfl) (by kernel_rfl) (by kernel_rfl) qjb4 (by show ¬ (b4 = b1 ∨ b4 = b2 ∨ b4 = b3); omega) (m := 1) (by kernel_rfl) rfl ?_
    refine GI_set (m := 1) (kd := false) 30 (.tmp 2) (.tmp 25) 0 (.slice Ak xs.length capk) [.slice Ak xs.length capk] none (by kernel_rfl) (by kernel_rfl) (by kernel_rfl) (by kernel_rfl) jb1 (by kernel_rfl) (by kernel_rfl) (by kernel_rfl) (Nat.le_of_ble_eq_true (by kernel_rfl)) (by simp [Value.oneCell']) K69 (fun hh => by show b1 = b1 ∨ b1 = b2 ∨ b1 = b3; omega) ?_
    intro w70 hb1_73 hk71 hz72 K74
    replace hb1_73 : Blk w70 b1 [.slice Ak xs.length capk] 30 := hb1_73
    replace jb2 := jb2.keep hk71 (by show ¬ (_ = _); omega)
    have hb2lt := jb2.lt
    replace jb3 := jb3.keep hk71 (by show ¬ (_ = _); omega)
    have hb3lt := jb3.lt
    replace jb4 := jb4.keep hk71 (by show ¬ (_ = _); omega)
    have hb4lt := jb4.lt
    replace jb5 := jb5.keep hk71 (by show ¬ (_ = _); omega)
    have hb5lt := jb5.lt
    replace jAk := SlT.keep jAk hk71 (fun q hq hs => by have hs : q = b1 := hs; have g0 := ownk q hq; have g1 := ltjAk q hq; omega)
    replace jAv := SlT.keep jAv hk71 (fun q hq hs => by have hs : q = b1 := hs; have g0 := ownv q hq; have g1 := ltjAv q hq; omega)
    replace jhK0 := Keep.fresh jhK0 hk71 (by intro i hi hs; first | exact hs | exact Or.inl hs | exact Or.inr hs | (exfalso; have hs2 : i = b1 := hs; omega)); have hzjhK0 := Keep.size jhK0
    replace hDD := (Keep.block hk71 _ (Array.getElem?_eq_some_iff.1 hDD).1 (by show ¬ (_ = _); omega)).trans hDD
    refine GI_cell 30 (.tmp 6) 0 (.slice Av xs.length capv) (some 26) (by kernel_rfl) (by kernel_rfl) (by kernel_rfl) qjb5 (by show ¬ (b5 = b1 ∨ b5 = b2 ∨ b5 = b3); omega) (m := 1) (by kernel_rfl) rfl ?_
    refine GI_final 3 (by kernel_rfl) (by kernel_rfl) ?_
    refine OI_set (m := 1) (kd := false) 30 (.tmp 3) (.tmp 26) 0 (.slice Av xs.length capv) [.slice Av xs.length capv] none (by kernel_rfl) (by kernel_rfl) (by kernel_rfl) jb2 (by kernel_rfl) (by kernel_rfl) (by kernel_rfl) (Nat.le_of_ble_eq_true (by kernel_rfl)) (by simp [Value.oneCell']) ?_
    intro w75 hb2_78 hk76 hz77
    replace hb2_78 : Blk w75 b2 [.slice Av xs.length capv] 30 := hb2_78
    replace hb1_73 := hb1_73.keep hk76 (by show ¬ (_ = _); omega)
    have hb1lt := hb1_73.lt
    replace jb3 := jb3.keep hk76 (by show ¬ (_ = _); omega)
    have hb3lt := jb3.lt
    replace jb4 := jb4.keep hk76 (by show ¬ (_ = _); omega)
    have hb4lt := jb4.lt
    replace jb5 := jb5.keep hk76 (by show ¬ (_ = _); omega)
    have hb5lt := jb5.lt
    replace jAk := SlT.keep jAk hk76 (fun q hq hs => by have hs : q = b2 := hs; have g0 := ownk q hq; have g1 := ltjAk q hq; omega)
    replace jAv := SlT.keep jAv hk76 (fun q hq hs => by have hs : q = b2 := hs; have g0 := ownv q hq; have g1 := ltjAv q hq; omega)
    replace jhK0 := Keep.fresh jhK0 hk76 (by intro i hi hs; first | exact hs | exact Or.inl hs | exact Or.inr hs | (exfalso; have hs2 : i = b2 := hs; omega)); have hzjhK0 := Keep.size jhK0
    replace hDD := (Keep.block hk76 _ (Array.getElem?_eq_some_iff.1 hDD).1 (by show ¬ (_ = _); omega)).trans hDD
    refine OI_set (m := 1) (kd := false) 4 (.tmp 4) (.const (Value.bool true)) 0 (.bool true) [.bool true] none (by kernel_rfl) (by kernel_rfl) (by kernel_rfl) jb3 (by kernel_rfl) (by kernel_rfl) (by kernel_rfl) (Nat.le_of_ble_eq_true (by kernel_rfl)) (by simp [Value.oneCell']) ?_
    intro w79 hb3_82 hk80 hz81
    replace hb3_82 : Blk w79 b3 [.bool true] 4 := hb3_82
    replace hb1_73 := hb1_73.keep hk80 (by show ¬ (_ = _); omega)
    have hb1lt := hb1_73.lt
    replace hb2_78 := hb2_78.keep hk80 (by show ¬ (_ = _); omega)
    have hb2lt := hb2_78.lt
    replace jb4 := jb4.keep hk80 (by show ¬ (_ = _); omega)
    have hb4lt := jb4.lt
    replace jb5 := jb5.keep hk80 (by show ¬ (_ = _); omega)
    have hb5lt := jb5.lt
    replace jAk := SlT.keep jAk hk80 (fun q hq hs => by have hs : q = b3 := hs; have g0 := ownk q hq; have g1 := ltjAk q hq; omega)
    replace jAv := SlT.keep jAv hk80 (fun q hq hs => by have hs : q = b3 := hs; have g0 := ownv q hq; have g1 := ltjAv q hq; omega)
    replace jhK0 := Keep.fresh jhK0 hk80 (by intro i hi hs; first | exact hs | exact Or.inl hs | exact Or.inr hs | (exfalso; have hs2 : i = b3 := hs; omega)); have hzjhK0 := Keep.size jhK0
    replace hDD := (Keep.block hk80 _ (Array.getElem?_eq_some_iff.1 hDD).1 (by show ¬ (_ = _); omega)).trans hDD
    refine OI_end rfl ?_
    refine X_then ?_
    refine V_ret ?_
    exact leave1 (.tuple #[.slice Ak xs.length capk, .slice Av xs.length capv, .bool true]) (.inl rfl) hDD (fun w' hk => ⟨res_cells3 (n1 := 1) (n2 := 1) (n3 := 1) rfl rfl rfl rfl (by kernel_rfl) (by kernel_rfl) (by kernel_rfl) (Blk.quiet hb1_73 hk) (Blk.quiet hb2_78 hk) (Blk.quiet hb3_82 hk), Ak, capk, Av, capv, rfl, SlT.quiet jAk hk, SlT.quiet jAv hk, Keep.quiet jhK0 hk (by omega), fun q h => (by have := ownk q h; omega), fun q h => (by have := ownv q h; omega)⟩)
end Go.Al
