/-
  Walks of the laws of grid: what a way tells.
-/
import Derived.Test.YtijhhcnahepdlaaGr7
namespace Go.Al
open Go Go.RowKit Go.Proofs
set_option maxRecDepth 10000 in
theorem told_spec (gf : FuncId) (caps : Array Value) (xs : List (Int × Int)) (Pre Ok : World → Prop) (w : World) (hb : bodied Try.prog gf = true) (hit : Iter2 Try.prog gf caps xs.length (enc2 xs) Pre Ok) (hPre : Pre w) (hPq : Quiet w.heap.size Pre) (hOk : ∀ W, Keep none_ w W → Ok W) (hn : xs.length ≤ 1000) : Calls Try.prog 20 #[.func (.func gf) #[] caps] w fun e w' => ∃ Ak capk Av capv, e = .returned (.tuple #[.slice Ak xs.length capk, .slice Av xs.length capv, .bool true]) ∧ SlT w' 1 intc Ak capk (xs.map (·.1)) ∧ SlT w' 1 intc Av capv (xs.map (·.2)) ∧ Keep none_ w w' ∧ (∀ q, inA Ak q → w.heap.size ≤ q) ∧ (∀ q, inA Av q → w.heap.size ≤ q) := by
  have hK0 : Keep none_ w w := Keep.refl _ _
  have hzhK0 := Keep.size hK0
  refine enterM Try.func20 rfl [.func (.func gf) #[] caps] 27 rfl rfl rfl ?_
  refine V_pick [(0, .func (.func gf) #[] caps)] rfl ?_
  refine V_seq ?_
  refine V_region ?_
  refine OI_alloc 30 (.slice none 0 0) [.slice none 0 0] (some 2) (by kernel_rfl) (by kernel_rfl) (by kernel_rfl) ?_
  intro b1 w1 e1 hb1 k1 z1
  have hsz2 := Keep.size k1
  replace hK0 := Keep.tr hK0 (Keep.ofNone k1); have hzhK0 := Keep.size hK0
  have hb1lt := hb1.lt
  refine OI_alloc 30 (.slice none 0 0) [.slice none 0 0] (some 3) (by kernel_rfl) (by kernel_rfl) (by kernel_rfl) ?_
  intro b3 w3 e3 hb3 k3 z3
  have hsz4 := Keep.size k3
  replace hb1 := hb1.keep k3 (fun f => f)
  have hb1lt := hb1.lt
  replace hK0 := Keep.tr hK0 (Keep.ofNone k3); have hzhK0 := Keep.size hK0
  have hb3lt := hb3.lt
  refine OI_alloc 4 (.bool false) [.bool false] (some 4) (by kernel_rfl) (by kernel_rfl) (by kernel_rfl) ?_
  intro b5 w5 e5 hb5 k5 z5
  have hsz6 := Keep.size k5
  replace hb1 := hb1.keep k5 (fun f => f)
  have hb1lt := hb1.lt
  replace hb3 := hb3.keep k5 (fun f => f)
  have hb3lt := hb3.lt
  replace hK0 := Keep.tr hK0 (Keep.ofNone k5); have hzhK0 := Keep.size hK0
  have hb5lt := hb5.lt
  refine OI_end rfl ?_
  refine X_then ?_
  refine V_seq ?_
  refine V_seq ?_
  refine V_region ?_
  refine OI_static 2 [(0, .func (.func gf) #[] caps), (2, .pointer (some ⟨b1, 0, none⟩)), (3, .pointer (some ⟨b3, 0, none⟩)), (4, .pointer (some ⟨b5, 0, none⟩)), (10, .bool false)] (by kernel_rfl) ?_
  refine OI_end rfl ?_
  refine X_then ?_
  refine V_false rfl ?_
  refine V_skip ?_
  refine X_then ?_
  refine V_seq ?_
  refine V_region ?_
  refine OI_alloc 30 (.slice none 0 0) [.slice none 0 0] (some 5) (by kernel_rfl) (by kernel_rfl) (by kernel_rfl) ?_
  intro b7 w7 e7 hb7 k7 z7
  have hsz8 := Keep.size k7
  replace hb1 := hb1.keep k7 (fun f => f)
  have hb1lt := hb1.lt
  replace hb3 := hb3.keep k7 (fun f => f)
  have hb3lt := hb3.lt
  replace hb5 := hb5.keep k7 (fun f => f)
  have hb5lt := hb5.lt
  replace hK0 := Keep.tr hK0 (Keep.ofNone k7); have hzhK0 := Keep.size hK0
  have hb7lt := hb7.lt
  refine OI_alloc 30 (.slice none 0 0) [.slice none 0 0] (some 6) (by kernel_rfl) (by kernel_rfl) (by kernel_rfl) ?_
  intro b9 w9 e9 hb9 k9 z9
  have hsz10 := Keep.size k9
  replace hb1 := hb1.keep k9 (fun f => f)
  have hb1lt := hb1.lt
  replace hb3 := hb3.keep k9 (fun f => f)
  have hb3lt := hb3.lt
  replace hb5 := hb5.keep k9 (fun f => f)
  have hb5lt := hb5.lt
  replace hb7 := hb7.keep k9 (fun f => f)
  have hb7lt := hb7.lt
  replace hK0 := Keep.tr hK0 (Keep.ofNone k9); have hzhK0 := Keep.size hK0
  have hb9lt := hb9.lt
  refine OI_end rfl ?_
  refine X_then ?_
  refine V_seq ?_
  refine V_seq ?_
  refine V_region ?_
  refine OI_static 1 [(2, .pointer (some ⟨b1, 0, none⟩)), (3, .pointer (some ⟨b3, 0, none⟩)), (4, .pointer (some ⟨b5, 0, none⟩)), (5, .pointer (some ⟨b7, 0, none⟩)), (6, .pointer (some ⟨b9, 0, none⟩)), (11, .func (.func gf) #[] caps)] (by kernel_rfl) ?_
  refine OI_end rfl ?_
  refine X_then ?_
  refine V_block ?_
  refine V_pick [(2, .pointer (some ⟨b1, 0, none⟩)), (3, .pointer (some ⟨b3, 0, none⟩)), (4, .pointer (some ⟨b5, 0, none⟩)), (5, .pointer (some ⟨b7, 0, none⟩)), (6, .pointer (some ⟨b9, 0, none⟩)), (11, .func (.func gf) #[] caps)] rfl ?_
  have hN0 : w.heap.size ≤ w9.heap.size := hzhK0
  refine V_range2 (gf := gf) (caps := caps) (m := xs.length) (by kernel_rfl) (by kernel_rfl) hb (hit) (hPq _ _ hPre (Keep.ofNone hK0)) (fun W W' h k => hPq _ _ h (k.mono fun _ _ h => lb_mono (by omega) h)) (enc2_size xs) (fun M1 k W => ∃ Ak : Option Addr, ∃ capk : Nat, ∃ Av : Option Addr, ∃ capv : Nat, (Blk W b1 [.slice none 0 0] 30) ∧ (Blk W b3 [.slice none 0 0] 30) ∧ (Blk W b5 [.bool false] 4) ∧ (Keep none_ w W) ∧ (Blk W b7 [.slice Ak (((xs.take k).map (·.1)).length) capk] 30) ∧ (Blk W b9 [.slice Av (((xs.take k).map (·.2)).length) capv] 30) ∧ (SlT W 1 intc Ak capk ((xs.take k).map (·.1))) ∧ (SlT W 1 intc Av capv ((xs.take k).map (·.2))) ∧ (∀ q, inA Ak q → M1 ≤ q) ∧ (∀ q, inA Av q → M1 ≤ q) ∧ (∀ q, inA Ak q → ¬ inA Av q)) (fun M1 c k W => False) (fun M1 k W W' h hk => by obtain ⟨Ak, capk, Av, capv, jb1, jb3, jb5, jhK0, jb7, jb9, jAk, jAv, ownk, ownv, hdis⟩ := h; exact ⟨Ak, capk, Av, capv, jb1.quiet hk, jb3.quiet hk, jb5.quiet hk, jhK0.quiet hk (by omega), jb7.quiet hk, jb9.quiet hk, jAk.quiet hk, jAv.quiet hk, ownk, ownv, hdis⟩) (fun _ _ _ _ _ h _ => h.elim) (fun M1 hM1 => ⟨none, 0, none, 0, hb1, hb3, hb5, hK0, hb7, hb9, SlT.nil _ _ _, SlT.nil _ _ _, fun q h => (inA_none h).elim, fun q h => (inA_none h).elim, fun q h => (inA_none h).elim⟩) (fun M1 k W h => by obtain ⟨Ak, capk, Av, capv, jb1, jb3, jb5, jhK0, jb7, jb9, jAk, jAv, ownk, ownv, hdis⟩ := h; exact hOk _ jhK0) ?_ ?_ (fun _ _ _ _ _ _ _ _ h _ => h.elim)
  · skip
    intro lp D M1 k W hD hl hM hMW hkm ⟨Ak, capk, Av, capv, jb1, jb3, jb5, jhK0, jb7, jb9, jAk, jAv, ownk, ownv, hdis⟩ ⟨rr, hrr⟩ hDD
    have hzjhK0 := Keep.size jhK0
    have hb1lt := jb1.lt
    have hb3lt := jb3.lt
    have hb5lt := jb5.lt
    have hb7lt := jb7.lt
    have hb9lt := jb9.lt
    have ltjAk := SlT.lt jAk
    have ltjAv := SlT.lt jAv
    obtain ⟨x, hx⟩ : ∃ x, xs[k]? = some x := ⟨_, List.getElem?_eq_getElem (by omega)⟩
    rw [enc2_at hx]
    have hlk : ((xs.take k).map (·.1)).length = k := by simp; omega
    have hlv : ((xs.take k).map (·.2)).length = k := by simp; omega
    have hs1 : (xs.take (k + 1)).map (·.1) = (xs.take k).map (·.1) ++ [x.1] := by obtain ⟨h1, h2⟩ := List.getElem?_eq_some_iff.1 hx; rw [List.take_succ_eq_append_getElem h1, h2]; simp
    have hs2 : (xs.take (k + 1)).map (·.2) = (xs.take k).map (·.2) ++ [x.2] := by obtain ⟨h1, h2⟩ := List.getElem?_eq_some_iff.1 hx; rw [List.take_succ_eq_append_getElem h1, h2]; simp
    refine V_pick [(2, .pointer (some ⟨b1, 0, none⟩)), (3, .pointer (some ⟨b3, 0, none⟩)), (4, .pointer (some ⟨b5, 0, none⟩)), (5, .pointer (some ⟨b7, 0, none⟩)), (6, .pointer (some ⟨b9, 0, none⟩)), (12, .int .i64 x.1), (13, .int .i64 x.2)] rfl ?_
    have hfen : Keep (fen w9.heap.size M1) W W := Keep.refl _ _
    have hzhfen := Keep.size hfen
    refine V_seq ?_
    refine V_region ?_
    refine OI_static 1 [(2, .pointer (some ⟨b1, 0, none⟩)), (3, .pointer (some ⟨b3, 0, none⟩)), (4, .pointer (some ⟨b5, 0, none⟩)), (5, .pointer (some ⟨b7, 0, none⟩)), (6, .pointer (some ⟨b9, 0, none⟩)), (7, .int .i64 x.1), (13, .int .i64 x.2)] (by kernel_rfl) ?_
    refine OI_end rfl ?_
    refine X_then ?_
    refine V_region ?_
    refine OI_static 1 [(2, .pointer (some ⟨b1, 0, none⟩)), (3, .pointer (some ⟨b3, 0, none⟩)), (4, .pointer (some ⟨b5, 0, none⟩)), (5, .pointer (some ⟨b7, 0, none⟩)), (6, .pointer (some ⟨b9, 0, none⟩)), (7, .int .i64 x.1), (8, .int .i64 x.2)] (by kernel_rfl) ?_
    refine OI_end rfl ?_
    refine X_begin2 hfen ?_
    intro W2 hk2 ⟨r2, hr2⟩ hD2
    have hsz11 := Keep.size hk2
    replace jb1 := Blk.quiet jb1 hk2
    have hb1lt := jb1.lt
    replace jb3 := Blk.quiet jb3 hk2
    have hb3lt := jb3.lt
    replace jb5 := Blk.quiet jb5 hk2
    have hb5lt := jb5.lt
    replace jb7 := Blk.quiet jb7 hk2
    have hb7lt := jb7.lt
    replace jb9 := Blk.quiet jb9 hk2
    have hb9lt := jb9.lt
    replace jAk := SlT.quiet jAk hk2
    replace jAv := SlT.quiet jAv hk2
    replace jhK0 := Keep.quiet jhK0 hk2 (by omega); have hzjhK0 := Keep.size jhK0
    have hzhk2 := Keep.size hk2
    have hfenb : Keep (fen w9.heap.size M1) W2 W2 := Keep.refl _ _
    have hzhfenb := Keep.size hfenb
    refine V_block ?_
    refine V_seq ?_
    refine V_draws (acts [2, 3, 6, 7, 8, 9]) (fun q => M1 ≤ q) [[1, 2, 0, 3, 5, 6, 4, 7, 8, 9], [1, 2, 5, 6, 0, 3, 4, 7, 8, 9], [5, 6, 1, 2, 0, 3, 4, 7, 8, 9]] (by kernel_rfl) (by repeat first | exact (by first | exact sure_postM | exact sure_rQ2 | exact sure_no | exact sure_body (by rintro _ _ ⟨h, _⟩; exact ⟨_, h⟩)) | refine sure_then ?_ | refine sure_block ?_ | refine sure_join ?_) (by kernel_rfl) ?_
    intro w13 hk12 he14 L hL15
    have hsz16 := Keep.size hk12
    replace jb1 := jb1.keep hk12 (fun f => f)
    have hb1lt := jb1.lt
    replace jb3 := jb3.keep hk12 (fun f => f)
    have hb3lt := jb3.lt
    replace jb5 := jb5.keep hk12 (fun f => f)
    have hb5lt := jb5.lt
    replace jb7 := jb7.keep hk12 (fun f => f)
    have hb7lt := jb7.lt
    replace jb9 := jb9.keep hk12 (fun f => f)
    have hb9lt := jb9.lt
    replace jAk := SlT.keep0 jAk hk12
    replace jAv := SlT.keep0 jAv hk12
    replace jhK0 := Keep.tr jhK0 (Keep.ofNone hk12); have hzjhK0 := Keep.size jhK0
    replace hfenb := Keep.tr hfenb (Keep.ofNone hk12); have hzhfenb := Keep.size hfenb
    have qjb1 := jb1
    have qjb3 := jb3
    have qjb5 := jb5
    have qjb7 := jb7
    have qjb9 := jb9
    have K17 : Keep (fun q => M1 ≤ q) w13 w13 := Keep.refl _ _
    simp only [List.mem_cons, List.not_mem_nil, or_false] at hL15
    rcases hL15 with rfl | rfl | rfl
    · skip
      refine GI_static [2, 0, 3, 5, 6, 4, 7, 8, 9] [(2, .pointer (some ⟨b1, 0, none⟩)), (3, .pointer (some ⟨b3, 0, none⟩)), (4, .pointer (some ⟨b5, 0, none⟩)), (5, .pointer (some ⟨b7, 0, none⟩)), (6, .pointer (some ⟨b9, 0, none⟩)), (8, .int .i64 x.2), (15, .int .i64 x.1)] (by kernel_rfl) ?_
      refine GI_slit (E := 3) (zv := .int .i64 0) (sz := 1) (by_ := 8) 30 1 #[(0, (Operand.tmp 15))] [.int .i64 x.1] [.int .i64 x.1] (some 16) (by kernel_rfl) (by kernel_rfl) K17 (by kernel_rfl) (by kernel_rfl) (by omega) rfl (by omega) (by intro v hv; simp only [List.mem_cons, List.not_mem_nil, or_false] at hv; rcases hv with rfl <;> rfl) (by kernel_rfl) rfl ?_
      intro b18 w18 e18 hb18 k18 z18 K19
      have hsz20 := Keep.size k18
      replace jb1 := jb1.keep k18 (fun f => f)
      have hb1lt := jb1.lt
      replace jb3 := jb3.keep k18 (fun f => f)
      have hb3lt := jb3.lt
      replace jb5 := jb5.keep k18 (fun f => f)
      have hb5lt := jb5.lt
      replace jb7 := jb7.keep k18 (fun f => f)
      have hb7lt := jb7.lt
      replace jb9 := jb9.keep k18 (fun f => f)
      have hb9lt := jb9.lt
      replace jAk := SlT.keep0 jAk k18
      replace jAv := SlT.keep0 jAv k18
      replace jhK0 := Keep.tr jhK0 (Keep.ofNone k18); have hzjhK0 := Keep.size jhK0
      replace hfenb := Keep.tr hfenb (Keep.ofNone k18); have hzhfenb := Keep.size hfenb
      have hb18lt := hb18.lt
      refine GI_cell 30 (.tmp 5) 0 (.slice Ak (((xs.take k).map (·.1)).length) capk) (some 14) (by kernel_rfl) (by kernel_rfl) (by kernel_rfl) qjb7 (by show ¬ (M1 ≤ b7); omega) (m := 1) (by kernel_rfl) rfl ?_
      refine GI_append (t := 30) (at2 := 30) (E := 3) (E2 := 3) (sz := 1) (by_ := 8) (zv := .int .i64 0) (m := ((xs.take k).map (·.1)).length) (k := 1) (.tmp 14) (.tmp 16) (.slice Ak (((xs.take k).map (·.1)).length) capk) (.slice (some ⟨b18, 0, none⟩) 1 1) (some 17) (by kernel_rfl) (by kernel_rfl) (by kernel_rfl) (by kernel_rfl) (by kernel_rfl) (by kernel_rfl) (by kernel_rfl) (by kernel_rfl) (SlT.slr jAk) (slr_one hb18 (intc_len x.1)) (intc_one x.1) (by first | omega | (simp only [List.length_nil]; omega)) (by omega) (by first | omega | (simp only [List.length_nil]; omega)) (by omega) ?_
      intro vv9 w21 hap
      obtain ⟨A21, cap21, rfl, hA21, hk21, own21x⟩ := app_one (f := intc) (xs := ((xs.take k).map (·.1))) (x := x.1) (A := Ak) (cap := capk) hap (fun x _ => intc_len x) (intc_len _)
      have own21 : ∀ q, inA A21 q → M1 ≤ q := fun q hq => by rcases own21x q hq with h | h; exact ownk q h; (show M1 ≤ q; omega)
      refine ⟨Keep.fresh K19 hk21 (by intro i hi hs; have h1 := ownk i hs; have h2 := ltjAk i hs; show M1 ≤ i; omega), ?_⟩
      have K22 := Keep.fresh K19 hk21 (by intro i hi hs; have h1 := ownk i hs; have h2 := ltjAk i hs; show M1 ≤ i; omega)
      have hsz23 := Keep.size hk21
      replace jb1 := jb1.keep hk21 (fun hs => by have h1 := ownk _ hs; have h2 := ltjAk _ hs; omega)
      have hb1lt := jb1.lt
      replace jb3 := jb3.keep hk21 (fun hs => by have h1 := ownk _ hs; have h2 := ltjAk _ hs; omega)
      have hb3lt := jb3.lt
      replace jb5 := jb5.keep hk21 (fun hs => by have h1 := ownk _ hs; have h2 := ltjAk _ hs; omega)
      have hb5lt := jb5.lt
      replace jb7 := jb7.keep hk21 (fun hs => by have h1 := ownk _ hs; have h2 := ltjAk _ hs; omega)
      have hb7lt := jb7.lt
      replace jb9 := jb9.keep hk21 (fun hs => by have h1 := ownk _ hs; have h2 := ltjAk _ hs; omega)
      have hb9lt := jb9.lt
      replace jAv := SlT.keep jAv hk21 (fun q hq hs => hdis q hs hq)
      replace jhK0 := Keep.fresh jhK0 hk21 (by intro i hi hs; first | exact hs | (exfalso; have h1 := ownk i hs; have h2 := ltjAk i hs; omega) | (have h1 := ownk i hs; have h2 := ltjAk i hs; show _ ∨ _; omega)); have hzjhK0 := Keep.size jhK0
      replace hfenb := Keep.fresh hfenb hk21 (by intro i hi hs; have h1 := ownk i hs; have h2 := ltjAk i hs; show _ ∨ _; omega); have hzhfenb := Keep.size hfenb
      have lt21 := SlT.lt hA21
      have hds24 : ∀ q, inA A21 q → ¬ inA Av q := fun q h1 h2 => by rcases own21x q h1 with h | h; exact hdis q h h2; (have h3 := ltjAv q h2; omega)
      refine GI_static [6, 4, 7, 8, 9] [(2, .pointer (some ⟨b1, 0, none⟩)), (3, .pointer (some ⟨b3, 0, none⟩)), (4, .pointer (some ⟨b5, 0, none⟩)), (5, .pointer (some ⟨b7, 0, none⟩)), (6, .pointer (some ⟨b9, 0, none⟩)), (17, .slice A21 ((((xs.take k).map (·.1)) ++ [x.1]).length) cap21), (19, .int .i64 x.2)] (by kernel_rfl) ?_
      refine GI_slit (E := 3) (zv := .int .i64 0) (sz := 1) (by_ := 8) 30 1 #[(0, (Operand.tmp 19))] [.int .i64 x.2] [.int .i64 x.2] (some 20) (by kernel_rfl) (by kernel_rfl) K22 (by kernel_rfl) (by kernel_rfl) (by omega) rfl (by omega) (by intro v hv; simp only [List.mem_cons, List.not_mem_nil, or_false] at hv; rcases hv with rfl <;> rfl) (by kernel_rfl) rfl ?_
      intro b25 w25 e25 hb25 k25 z25 K26
      have hsz27 := Keep.size k25
      replace jb1 := jb1.keep k25 (fun f => f)
      have hb1lt := jb1.lt
      replace jb3 := jb3.keep k25 (fun f => f)
      have hb3lt := jb3.lt
      replace jb5 := jb5.keep k25 (fun f => f)
      have hb5lt := jb5.lt
      replace jb7 := jb7.keep k25 (fun f => f)
      have hb7lt := jb7.lt
      replace jb9 := jb9.keep k25 (fun f => f)
      have hb9lt := jb9.lt
      replace jAv := SlT.keep0 jAv k25
      replace hA21 := SlT.keep0 hA21 k25
      replace jhK0 := Keep.tr jhK0 (Keep.ofNone k25); have hzjhK0 := Keep.size jhK0
      replace hfenb := Keep.tr hfenb (Keep.ofNone k25); have hzhfenb := Keep.size hfenb
      have hb25lt := hb25.lt
      refine GI_cell 30 (.tmp 6) 0 (.slice Av (((xs.take k).map (·.2)).length) capv) (some 18) (by kernel_rfl) (by kernel_rfl) (by kernel_rfl) qjb9 (by show ¬ (M1 ≤ b9); omega) (m := 1) (by kernel_rfl) rfl ?_
      refine GI_final 7 (by kernel_rfl) (by kernel_rfl) ?_
      refine OI_append (t := 30) (at2 := 30) (E := 3) (E2 := 3) (sz := 1) (by_ := 8) (zv := .int .i64 0) (m := ((xs.take k).map (·.2)).length) (k := 1) (.tmp 18) (.tmp 20) (.slice Av (((xs.take k).map (·.2)).length) capv) (.slice (some ⟨b25, 0, none⟩) 1 1) (some 21) (by kernel_rfl) (by kernel_rfl) (by kernel_rfl) (by kernel_rfl) (by kernel_rfl) (by kernel_rfl) (by kernel_rfl) (SlT.slr jAv) (slr_one hb25 (intc_len x.2)) (intc_one x.2) (by first | omega | (simp only [List.length_nil]; omega)) (by omega) (by first | omega | (simp only [List.length_nil]; omega)) (by omega) ?_
      intro vv9 w28 hap
      obtain ⟨A28, cap28, rfl, hA28, hk28, own28x⟩ := app_one (f := intc) (xs := ((xs.take k).map (·.2))) (x := x.2) (A := Av) (cap := capv) hap (fun x _ => intc_len x) (intc_len _)
      have own28 : ∀ q, inA A28 q → M1 ≤ q := fun q hq => by rcases own28x q hq with h | h; exact ownv q h; (show M1 ≤ q; omega)
      have hsz29 := Keep.size hk28
      replace jb1 := jb1.keep hk28 (fun hs => by have h1 := ownv _ hs; have h2 := ltjAv _ hs; omega)
      have hb1lt := jb1.lt
      replace jb3 := jb3.keep hk28 (fun hs => by have h1 := ownv _ hs; have h2 := ltjAv _ hs; omega)
      have hb3lt := jb3.lt
      replace jb5 := jb5.keep hk28 (fun hs => by have h1 := ownv _ hs; have h2 := ltjAv _ hs; omega)
      have hb5lt := jb5.lt
      replace jb7 := jb7.keep hk28 (fun hs => by have h1 := ownv _ hs; have h2 := ltjAv _ hs; omega)
      have hb7lt := jb7.lt
      replace jb9 := jb9.keep hk28 (fun hs => by have h1 := ownv _ hs; have h2 := ltjAv _ hs; omega)
      have hb9lt := jb9.lt
      replace hA21 := SlT.keep hA21 hk28 (fun q hq hs => (fun q h1 h2 => hds24 q h2 h1) q hs hq)
      replace jhK0 := Keep.fresh jhK0 hk28 (by intro i hi hs; first | exact hs | (exfalso; have h1 := ownv i hs; have h2 := ltjAv i hs; omega) | (have h1 := ownv i hs; have h2 := ltjAv i hs; show _ ∨ _; omega)); have hzjhK0 := Keep.size jhK0
      replace hfenb := Keep.fresh hfenb hk28 (by intro i hi hs; have h1 := ownv i hs; have h2 := ltjAv i hs; show _ ∨ _; omega); have hzhfenb := Keep.size hfenb
      have lt28 := SlT.lt hA28
      have hds30 : ∀ q, inA A21 q → ¬ inA A28 q := fun q h1 h2 => by rcases own28x q h2 with h | h; exact hds24 q h1 h; (have h3 := lt21 q h1; omega)
      refine OI_set (m := 1) (kd := false) 30 (.tmp 5) (.tmp 17) 0 (.slice A21 ((((xs.take k).map (·.1)) ++ [x.1]).length) cap21) [.slice A21 ((((xs.take k).map (·.1)) ++ [x.1]).length) cap21] none (by kernel_rfl) (by kernel_rfl) (by kernel_rfl) jb7 (by kernel_rfl) (by kernel_rfl) (by kernel_rfl) (Nat.le_of_ble_eq_true (by kernel_rfl)) (by simp [Value.oneCell']) ?_
      intro w31 hb7_34 hk32 hz33
      replace hb7_34 : Blk w31 b7 [.slice A21 ((((xs.take k).map (·.1)) ++ [x.1]).length) cap21] 30 := hb7_34
      have hsz35 := Keep.size hk32
      replace jb1 := jb1.keep hk32 (by show ¬ (_ = _); omega)
      have hb1lt := jb1.lt
      replace jb3 := jb3.keep hk32 (by show ¬ (_ = _); omega)
      have hb3lt := jb3.lt
      replace jb5 := jb5.keep hk32 (by show ¬ (_ = _); omega)
      have hb5lt := jb5.lt
      replace jb9 := jb9.keep hk32 (by show ¬ (_ = _); omega)
      have hb9lt := jb9.lt
      replace hA21 := SlT.keep hA21 hk32 (fun q hq hs => by have hs : q = b7 := hs; have g0 := own21 q hq; have g1 := lt21 q hq; omega)
      replace hA28 := SlT.keep hA28 hk32 (fun q hq hs => by have hs : q = b7 := hs; have g0 := own28 q hq; have g1 := lt28 q hq; omega)
      replace jhK0 := Keep.fresh jhK0 hk32 (by intro i hi hs; first | exact hs | exact Or.inl hs | exact Or.inr hs | (exfalso; have hs2 : i = b7 := hs; omega)); have hzjhK0 := Keep.size jhK0
      replace hfenb := Keep.fresh hfenb hk32 (by intro i hi hs; have hs2 : i = b7 := hs; show _ ∨ _; omega); have hzhfenb := Keep.size hfenb
      refine OI_set (m := 1) (kd := false) 30 (.tmp 6) (.tmp 21) 0 (.slice A28 ((((xs.take k).map (·.2)) ++ [x.2]).length) cap28) [.slice A28 ((((xs.take k).map (·.2)) ++ [x.2]).length) cap28] none (by kernel_rfl) (by kernel_rfl) (by kernel_rfl) jb9 (by kernel_rfl) (by kernel_rfl) (by kernel_rfl) (Nat.le_of_ble_eq_true (by kernel_rfl)) (by simp [Value.oneCell']) ?_
      intro w36 hb9_39 hk37 hz38
      replace hb9_39 : Blk w36 b9 [.slice A28 ((((xs.take k).map (·.2)) ++ [x.2]).length) cap28] 30 := hb9_39
      have hsz40 := Keep.size hk37
      replace jb1 := jb1.keep hk37 (by show ¬ (_ = _); omega)
      have hb1lt := jb1.lt
      replace jb3 := jb3.keep hk37 (by show ¬ (_ = _); omega)
      have hb3lt := jb3.lt
      replace jb5 := jb5.keep hk37 (by show ¬ (_ = _); omega)
      have hb5lt := jb5.lt
      replace hb7_34 := hb7_34.keep hk37 (by show ¬ (_ = _); omega)
      have hb7lt := hb7_34.lt
      replace hA21 := SlT.keep hA21 hk37 (fun q hq hs => by have hs : q = b9 := hs; have g0 := own21 q hq; have g1 := lt21 q hq; omega)
      replace hA28 := SlT.keep hA28 hk37 (fun q hq hs => by have hs : q = b9 := hs; have g0 := own28 q hq; have g1 := lt28 q hq; omega)
      replace jhK0 := Keep.fresh jhK0 hk37 (by intro i hi hs; first | exact hs | exact Or.inl hs | exact Or.inr hs | (exfalso; have hs2 : i = b9 := hs; omega)); have hzjhK0 := Keep.size jhK0
      replace hfenb := Keep.fresh hfenb hk37 (by intro i hi hs; have hs2 : i = b9 := hs; show _ ∨ _; omega); have hzhfenb := Keep.size hfenb
      refine OI_end rfl ?_
      refine X_then ?_
      refine V_seq ?_
      refine V_region ?_
      refine OI_cell 30 (.tmp 5) 0 (.slice A21 ((((xs.take k).map (·.1)) ++ [x.1]).length) cap21) (some 22) (by kernel_rfl) (by kernel_rfl) hb7_34 (m := 1) (by kernel_rfl) rfl ?_
      refine OI_static 3 [(2, .pointer (some ⟨b1, 0, none⟩)), (3, .pointer (some ⟨b3, 0, none⟩)), (4, .pointer (some ⟨b5, 0, none⟩)), (24, .bool (decide ((((((xs.take k).map (·.1)) ++ [x.1]).length : Nat) : Int) > 1000)))] (by kernel_rfl) ?_
      refine OI_end rfl ?_
      refine X_then ?_
      refine V_if ((((((xs.take k).map (·.1)) ++ [x.1]).length : Nat) : Int) > 1000) (by kernel_rfl) (fun hc41 => ?_) (fun hc41 => ?_)
      · skip
        exact (by simp only [List.length_append, List.length_cons, List.length_nil] at hc41; omega : False).elim
      · skip
        refine V_skip ?_
        refine X_block ?_
        exact fun a _ => ⟨hfenb, A21, cap21, A28, cap28, jb1, jb3, jb5, jhK0, by rw [hs1]; exact hb7_34, by rw [hs2]; exact hb9_39, by rw [hs1]; exact hA21, by rw [hs2]; exact hA28, own21, own28, hds30⟩
    · skip
      refine GI_static [2, 5, 6, 0, 3, 4, 7, 8, 9] [(2, .pointer (some ⟨b1, 0, none⟩)), (3, .pointer (some ⟨b3, 0, none⟩)), (4, .pointer (some ⟨b5, 0, none⟩)), (5, .pointer (some ⟨b7, 0, none⟩)), (6, .pointer (some ⟨b9, 0, none⟩)), (8, .int .i64 x.2), (15, .int .i64 x.1)] (by kernel_rfl) ?_
      refine GI_slit (E := 3) (zv := .int .i64 0) (sz := 1) (by_ := 8) 30 1 #[(0, (Operand.tmp 15))] [.int .i64 x.1] [.int .i64 x.1] (some 16) (by kernel_rfl) (by kernel_rfl) K17 (by kernel_rfl) (by kernel_rfl) (by omega) rfl (by omega) (by intro v hv; simp only [List.mem_cons, List.not_mem_nil, or_false] at hv; rcases hv with rfl <;> rfl) (by kernel_rfl) rfl ?_
      intro b42 w42 e42 hb42 k42 z42 K43
      have hsz44 := Keep.size k42
      replace jb1 := jb1.keep k42 (fun f => f)
      have hb1lt := jb1.lt
      replace jb3 := jb3.keep k42 (fun f => f)
      have hb3lt := jb3.lt
      replace jb5 := jb5.keep k42 (fun f => f)
      have hb5lt := jb5.lt
      replace jb7 := jb7.keep k42 (fun f => f)
      have hb7lt := jb7.lt
      replace jb9 := jb9.keep k42 (fun f => f)
      have hb9lt := jb9.lt
      replace jAk := SlT.keep0 jAk k42
      replace jAv := SlT.keep0 jAv k42
      replace jhK0 := Keep.tr jhK0 (Keep.ofNone k42); have hzjhK0 := Keep.size jhK0
      replace hfenb := Keep.tr hfenb (Keep.ofNone k42); have hzhfenb := Keep.size hfenb
      have hb42lt := hb42.lt
      refine GI_static [6, 0, 3, 4, 7, 8, 9] [(2, .pointer (some ⟨b1, 0, none⟩)), (3, .pointer (some ⟨b3, 0, none⟩)), (4, .pointer (some ⟨b5, 0, none⟩)), (5, .pointer (some ⟨b7, 0, none⟩)), (6, .pointer (some ⟨b9, 0, none⟩)), (16, .slice (some ⟨b42, 0, none⟩) 1 1), (19, .int .i64 x.2)] (by kernel_rfl) ?_
      refine GI_slit (E := 3) (zv := .int .i64 0) (sz := 1) (by_ := 8) 30 1 #[(0, (Operand.tmp 19))] [.int .i64 x.2] [.int .i64 x.2] (some 20) (by kernel_rfl) (by kernel_rfl) K43 (by kernel_rfl) (by kernel_rfl) (by omega) rfl (by omega) (by intro v hv; simp only [List.mem_cons, List.not_mem_nil, or_false] at hv; rcases hv with rfl <;> rfl) (by kernel_rfl) rfl ?_
      intro b45 w45 e45 hb45 k45 z45 K46
      have hsz47 := Keep.size k45
      replace jb1 := jb1.keep k45 (fun f => f)
      have hb1lt := jb1.lt
      replace jb3 := jb3.keep k45 (fun f => f)
      have hb3lt := jb3.lt
      replace jb5 := jb5.keep k45 (fun f => f)
      have hb5lt := jb5.lt
      replace jb7 := jb7.keep k45 (fun f => f)
      have hb7lt := jb7.lt
      replace jb9 := jb9.keep k45 (fun f => f)
      have hb9lt := jb9.lt
      replace hb42 := hb42.keep k45 (fun f => f)
      have hb42lt := hb42.lt
      replace jAk := SlT.keep0 jAk k45
      replace jAv := SlT.keep0 jAv k45
      replace jhK0 := Keep.tr jhK0 (Keep.ofNone k45); have hzjhK0 := Keep.size jhK0
      replace hfenb := Keep.tr hfenb (Keep.ofNone k45); have hzhfenb := Keep.size hfenb
      have hb45lt := hb45.lt
      refine GI_cell 30 (.tmp 5) 0 (.slice Ak (((xs.take k).map (·.1)).length) capk) (some 14) (by kernel_rfl) (by kernel_rfl) (by kernel_rfl) qjb7 (by show ¬ (M1 ≤ b7); omega) (m := 1) (by kernel_rfl) rfl ?_
      refine GI_append (t := 30) (at2 := 30) (E := 3) (E2 := 3) (sz := 1) (by_ := 8) (zv := .int .i64 0) (m := ((xs.take k).map (·.1)).length) (k := 1) (.tmp 14) (.tmp 16) (.slice Ak (((xs.take k).map (·.1)).length) capk) (.slice (some ⟨b42, 0, none⟩) 1 1) (some 17) (by kernel_rfl) (by kernel_rfl) (by kernel_rfl) (by kernel_rfl) (by kernel_rfl) (by kernel_rfl) (by kernel_rfl) (by kernel_rfl) (SlT.slr jAk) (slr_one hb42 (intc_len x.1)) (intc_one x.1) (by first | omega | (simp only [List.length_nil]; omega)) (by omega) (by first | omega | (simp only [List.length_nil]; omega)) (by omega) ?_
      intro vv9 w48 hap
      obtain ⟨A48, cap48, rfl, hA48, hk48, own48x⟩ := app_one (f := intc) (xs := ((xs.take k).map (·.1))) (x := x.1) (A := Ak) (cap := capk) hap (fun x _ => intc_len x) (intc_len _)
      have own48 : ∀ q, inA A48 q → M1 ≤ q := fun q hq => by rcases own48x q hq with h | h; exact ownk q h; (show M1 ≤ q; omega)
      refine ⟨Keep.fresh K46 hk48 (by intro i hi hs; have h1 := ownk i hs; have h2 := ltjAk i hs; show M1 ≤ i; omega), ?_⟩
      have K49 := Keep.fresh K46 hk48 (by intro i hi hs; have h1 := ownk i hs; have h2 := ltjAk i hs; show M1 ≤ i; omega)
      have hsz50 := Keep.size hk48
      replace jb1 := jb1.keep hk48 (fun hs => by have h1 := ownk _ hs; have h2 := ltjAk _ hs; omega)
      have hb1lt := jb1.lt
      replace jb3 := jb3.keep hk48 (fun hs => by have h1 := ownk _ hs; have h2 := ltjAk _ hs; omega)
      have hb3lt := jb3.lt
      replace jb5 := jb5.keep hk48 (fun hs => by have h1 := ownk _ hs; have h2 := ltjAk _ hs; omega)
      have hb5lt := jb5.lt
      replace jb7 := jb7.keep hk48 (fun hs => by have h1 := ownk _ hs; have h2 := ltjAk _ hs; omega)
      have hb7lt := jb7.lt
      replace jb9 := jb9.keep hk48 (fun hs => by have h1 := ownk _ hs; have h2 := ltjAk _ hs; omega)
      have hb9lt := jb9.lt
      replace hb45 := hb45.keep hk48 (fun hs => by have h1 := ownk _ hs; have h2 := ltjAk _ hs; omega)
      have hb45lt := hb45.lt
      replace jAv := SlT.keep jAv hk48 (fun q hq hs => hdis q hs hq)
      replace jhK0 := Keep.fresh jhK0 hk48 (by intro i hi hs; first | exact hs | (exfalso; have h1 := ownk i hs; have h2 := ltjAk i hs; omega) | (have h1 := ownk i hs; have h2 := ltjAk i hs; show _ ∨ _; omega)); have hzjhK0 := Keep.size jhK0
      replace hfenb := Keep.fresh hfenb hk48 (by intro i hi hs; have h1 := ownk i hs; have h2 := ltjAk i hs; show _ ∨ _; omega); have hzhfenb := Keep.size hfenb
      have lt48 := SlT.lt hA48
      have hds51 : ∀ q, inA A48 q → ¬ inA Av q := fun q h1 h2 => by rcases own48x q h1 with h | h; exact hdis q h h2; (have h3 := ltjAv q h2; omega)
      refine GI_cell 30 (.tmp 6) 0 (.slice Av (((xs.take k).map (·.2)).length) capv) (some 18) (by kernel_rfl) (by kernel_rfl) (by kernel_rfl) qjb9 (by show ¬ (M1 ≤ b9); omega) (m := 1) (by kernel_rfl) rfl ?_
      refine GI_final 7 (by kernel_rfl) (by kernel_rfl) ?_
      refine OI_append (t := 30) (at2 := 30) (E := 3) (E2 := 3) (sz := 1) (by_ := 8) (zv := .int .i64 0) (m := ((xs.take k).map (·.2)).length) (k := 1) (.tmp 18) (.tmp 20) (.slice Av (((xs.take k).map (·.2)).length) capv) (.slice (some ⟨b45, 0, none⟩) 1 1) (some 21) (by kernel_rfl) (by kernel_rfl) (by kernel_rfl) (by kernel_rfl) (by kernel_rfl) (by kernel_rfl) (by kernel_rfl) (SlT.slr jAv) (slr_one hb45 (intc_len x.2)) (intc_one x.2) (by first | omega | (simp only [List.length_nil]; omega)) (by omega) (by first | omega | (simp only [List.length_nil]; omega)) (by omega) ?_
      intro vv9 w52 hap
      obtain ⟨A52, cap52, rfl, hA52, hk52, own52x⟩ := app_one (f := intc) (xs := ((xs.take k).map (·.2))) (x := x.2) (A := Av) (cap := capv) hap (fun x _ => intc_len x) (intc_len _)
      have own52 : ∀ q, inA A52 q → M1 ≤ q := fun q hq => by rcases own52x q hq with h | h; exact ownv q h; (show M1 ≤ q; omega)
      have hsz53 := Keep.size hk52
      replace jb1 := jb1.keep hk52 (fun hs => by have h1 := ownv _ hs; have h2 := ltjAv _ hs; omega)
      have hb1lt := jb1.lt
      replace jb3 := jb3.keep hk52 (fun hs => by have h1 := ownv _ hs; have h2 := ltjAv _ hs; omega)
      have hb3lt := jb3.lt
      replace jb5 := jb5.keep hk52 (fun hs => by have h1 := ownv _ hs; have h2 := ltjAv _ hs; omega)
      have hb5lt := jb5.lt
      replace jb7 := jb7.keep hk52 (fun hs => by have h1 := ownv _ hs; have h2 := ltjAv _ hs; omega)
      have hb7lt := jb7.lt
      replace jb9 := jb9.keep hk52 (fun hs => by have h1 := ownv _ hs; have h2 := ltjAv _ hs; omega)
      have hb9lt := jb9.lt
      replace hA48 := SlT.keep hA48 hk52 (fun q hq hs => (fun q h1 h2 => hds51 q h2 h1) q hs hq)
      replace jhK0 := Keep.fresh jhK0 hk52 (by intro i hi hs; first | exact hs | (exfalso; have h1 := ownv i hs; have h2 := ltjAv i hs; omega) | (have h1 := ownv i hs; have h2 := ltjAv i hs; show _ ∨ _; omega)); have hzjhK0 := Keep.size jhK0
      replace hfenb := Keep.fresh hfenb hk52 (by intro i hi hs; have h1 := ownv i hs; have h2 := ltjAv i hs; show _ ∨ _; omega); have hzhfenb := Keep.size hfenb
      have lt52 := SlT.lt hA52
      have hds54 : ∀ q, inA A48 q → ¬ inA A52 q := fun q h1 h2 => by rcases own52x q h2 with h | h; exact hds51 q h1 h; (have h3 := lt48 q h1; omega)
      refine OI_set (m := 1) (kd := false) 30 (.tmp 5) (.tmp 17) 0 (.slice A48 ((((xs.take k).map (·.1)) ++ [x.1]).length) cap48) [.slice A48 ((((xs.take k).map (·.1)) ++ [x.1]).length) cap48] none (by kernel_rfl) (by kernel_rfl) (by kernel_rfl) jb7 (by kernel_rfl) (by kernel_rfl) (by kernel_rfl) (Nat.le_of_ble_eq_true (by kernel_rfl)) (by simp [Value.oneCell']) ?_
      intro w55 hb7_58 hk56 hz57
      replace hb7_58 : Blk w55 b7 [.slice A48 ((((xs.take k).map (·.1)) ++ [x.1]).length) cap48] 30 := hb7_58
      have hsz59 := Keep.size hk56
      replace jb1 := jb1.keep hk56 (by show ¬ (_ = _); omega)
      have hb1lt := jb1.lt
      replace jb3 := jb3.keep hk56 (by show ¬ (_ = _); omega)
      have hb3lt := jb3.lt
      replace jb5 := jb5.keep hk56 (by show ¬ (_ = _); omega)
      have hb5lt := jb5.lt
      replace jb9 := jb9.keep hk56 (by show ¬ (_ = _); omega)
      have hb9lt := jb9.lt
      replace hA48 := SlT.keep hA48 hk56 (fun q hq hs => by have hs : q = b7 := hs; have g0 := own48 q hq; have g1 := lt48 q hq; omega)
      replace hA52 := SlT.keep hA52 hk56 (fun q hq hs => by have hs : q = b7 := hs; have g0 := own52 q hq; have g1 := lt52 q hq; omega)
      replace jhK0 := Keep.fresh jhK0 hk56 (by intro i hi hs; first | exact hs | exact Or.inl hs | exact Or.inr hs | (exfalso; have hs2 : i = b7 := hs; omega)); have hzjhK0 := Keep.size jhK0
      replace hfenb := Keep.fresh hfenb hk56 (by intro i hi hs; have hs2 : i = b7 := hs; show _ ∨ _; omega); have hzhfenb := Keep.size hfenb
      refine OI_set (m := 1) (kd := false) 30 (.tmp 6) (.tmp 21) 0 (.slice A52 ((((xs.take k).map (·.2)) ++ [x.2]).length) cap52) [.slice A52 ((((xs.take k).map (·.2)) ++ [x.2]).length) cap52] none (by kernel_rfl) (by kernel_rfl) (by kernel_rfl) jb9 (by kernel_rfl) (by kernel_rfl) (by kernel_rfl) (Nat.le_of_ble_eq_true (by kernel_rfl)) (by simp [Value.oneCell']) ?_
      intro w60 hb9_63 hk61 hz62
      replace hb9_63 : Blk w60 b9 [.slice A52 ((((xs.take k).map (·.2)) ++ [x.2]).length) cap52] 30 := hb9_63
      have hsz64 := Keep.size hk61
      replace jb1 := jb1.keep hk61 (by show ¬ (_ = _); omega)
      have hb1lt := jb1.lt
      replace jb3 := jb3.keep hk61 (by show ¬ (_ = _); omega)
      have hb3lt := jb3.lt
      replace jb5 := jb5.keep hk61 (by show ¬ (_ = _); omega)
      have hb5lt := jb5.lt
      replace hb7_58 := hb7_58.keep hk61 (by show ¬ (_ = _); omega)
      have hb7lt := hb7_58.lt
      replace hA48 := SlT.keep hA48 hk61 (fun q hq hs => by have hs : q = b9 := hs; have g0 := own48 q hq; have g1 := lt48 q hq; omega)
      replace hA52 := SlT.keep hA52 hk61 (fun q hq hs => by have hs : q = b9 := hs; have g0 := own52 q hq; have g1 := lt52 q hq; omega)
      replace jhK0 := Keep.fresh jhK0 hk61 (by intro i hi hs; first | exact hs | exact Or.inl hs | exact Or.inr hs | (exfalso; have hs2 : i = b9 := hs; omega)); have hzjhK0 := Keep.size jhK0
      replace hfenb := Keep.fresh hfenb hk61 (by intro i hi hs; have hs2 : i = b9 := hs; show _ ∨ _; omega); have hzhfenb := Keep.size hfenb
      refine OI_end rfl ?_
      refine X_then ?_
      refine V_seq ?_
      refine V_region ?_
      refine OI_cell 30 (.tmp 5) 0 (.slice A48 ((((xs.take k).map (·.1)) ++ [x.1]).length) cap48) (some 22) (by kernel_rfl) (by kernel_rfl) hb7_58 (m := 1) (by kernel_rfl) rfl ?_
      refine OI_static 3 [(2, .pointer (some ⟨b1, 0, none⟩)), (3, .pointer (some ⟨b3, 0, none⟩)), (4, .pointer (some ⟨b5, 0, none⟩)), (24, .bool (decide ((((((xs.take k).map (·.1)) ++ [x.1]).length : Nat) : Int) > 1000)))] (by kernel_rfl) ?_
      refine OI_end rfl ?_
      refine X_then ?_
      refine V_if ((((((xs.take k).map (·.1)) ++ [x.1]).length : Nat) : Int) > 1000) (by kernel_rfl) (fun hc65 => ?_) (fun hc65 => ?_)
      · skip
        exact (by simp only [List.length_append, List.length_cons, List.length_nil] at hc65; omega : False).elim
      · skip
        refine V_skip ?_
        refine X_block ?_
        exact fun a _ => ⟨hfenb, A48, cap48, A52, cap52, jb1, jb3, jb5, jhK0, by rw [hs1]; exact hb7_58, by rw [hs2]; exact hb9_63, by rw [hs1]; exact hA48, by rw [hs2]; exact hA52, own48, own52, hds54⟩
    · skip
      refine GI_static [6, 1, 2, 0, 3, 4, 7, 8, 9] [(2, .pointer (some ⟨b1, 0, none⟩)), (3, .pointer (some ⟨b3, 0, none⟩)), (4, .pointer (some ⟨b5, 0, none⟩)), (5, .pointer (some ⟨b7, 0, none⟩)), (6, .pointer (some ⟨b9, 0, none⟩)), (7, .int .i64 x.1), (19, .int .i64 x.2)] (by kernel_rfl) ?_
      refine GI_slit (E := 3) (zv := .int .i64 0) (sz := 1) (by_ := 8) 30 1 #[(0, (Operand.tmp 19))] [.int .i64 x.2] [.int .i64 x.2] (some 20) (by kernel_rfl) (by kernel_rfl) K17 (by kernel_rfl) (by kernel_rfl) (by omega) rfl (by omega) (by intro v hv; simp only [List.mem_cons, List.not_mem_nil, or_false] at hv; rcases hv with rfl <;> rfl) (by kernel_rfl) rfl ?_
      intro b66 w66 e66 hb66 k66 z66 K67
      have hsz68 := Keep.size k66
      replace jb1 := jb1.keep k66 (fun f => f)
      have hb1lt := jb1.lt
      replace jb3 := jb3.keep k66 (fun f => f)
      have hb3lt := jb3.lt
      replace jb5 := jb5.keep k66 (fun f => f)
      have hb5lt := jb5.lt
      replace jb7 := jb7.keep k66 (fun f => f)
      have hb7lt := jb7.lt
      replace jb9 := jb9.keep k66 (fun f => f)
      have hb9lt := jb9.lt
      replace jAk := SlT.keep0 jAk k66
      replace jAv := SlT.keep0 jAv k66
      replace jhK0 := Keep.tr jhK0 (Keep.ofNone k66); have hzjhK0 := Keep.size jhK0
      replace hfenb := Keep.tr hfenb (Keep.ofNone k66); have hzhfenb := Keep.size hfenb
      have hb66lt := hb66.lt
      refine GI_static [2, 0, 3, 4, 7, 8, 9] [(2, .pointer (some ⟨b1, 0, none⟩)), (3, .pointer (some ⟨b3, 0, none⟩)), (4, .pointer (some ⟨b5, 0, none⟩)), (5, .pointer (some ⟨b7, 0, none⟩)), (6, .pointer (some ⟨b9, 0, none⟩)), (15, .int .i64 x.1), (20, .slice (some ⟨b66, 0, none⟩) 1 1)] (by kernel_rfl) ?_
      refine GI_slit (E := 3) (zv := .int .i64 0) (sz := 1) (by_ := 8) 30 1 #[(0, (Operand.tmp 15))] [.int .i64 x.1] [.int .i64 x.1] (some 16) (by kernel_rfl) (by kernel_rfl) K67 (by kernel_rfl) (by kernel_rfl) (by omega) rfl (by omega) (by intro v hv; simp only [List.mem_cons, List.not_mem_nil, or_false] at hv; rcases hv with rfl <;> rfl) (by kernel_rfl) rfl ?_
      intro b69 w69 e69 hb69 k69 z69 K70
      have hsz71 := Keep.size k69
      replace jb1 := jb1.keep k69 (fun f => f)
      have hb1lt := jb1.lt
      replace jb3 := jb3.keep k69 (fun f => f)
      have hb3lt := jb3.lt
      replace jb5 := jb5.keep k69 (fun f => f)
      have hb5lt := jb5.lt
      replace jb7 := jb7.keep k69 (fun f => f)
      have hb7lt := jb7.lt
      replace jb9 := jb9.keep k69 (fun f => f)
      have hb9lt := jb9.lt
      replace hb66 := hb66.keep k69 (fun f => f)
      have hb66lt := hb66.lt
      replace jAk := SlT.keep0 jAk k69
      replace jAv := SlT.keep0 jAv k69
      replace jhK0 := Keep.tr jhK0 (Keep.ofNone k69); have hzjhK0 := Keep.size jhK0
      replace hfenb := Keep.tr hfenb (Keep.ofNone k69); have hzhfenb := Keep.size hfenb
      have hb69lt := hb69.lt
      refine GI_cell 30 (.tmp 5) 0 (.slice Ak (((xs.take k).map (·.1)).length) capk) (some 14) (by kernel_rfl) (by kernel_rfl) (by kernel_rfl) qjb7 (by show ¬ (M1 ≤ b7); omega) (m := 1) (by kernel_rfl) rfl ?_
      refine GI_append (t := 30) (at2 := 30) (E := 3) (E2 := 3) (sz := 1) (by_ := 8) (zv := .int .i64 0) (m := ((xs.take k).map (·.1)).length) (k := 1) (.tmp 14) (.tmp 16) (.slice Ak (((xs.take k).map (·.1)).length) capk) (.slice (some ⟨b69, 0, none⟩) 1 1) (some 17) (by kernel_rfl) (by kernel_rfl) (by kernel_rfl) (by kernel_rfl) (by kernel_rfl) (by kernel_rfl) (by kernel_rfl) (by kernel_rfl) (SlT.slr jAk) (slr_one hb69 (intc_len x.1)) (intc_one x.1) (by first | omega | (simp only [List.length_nil]; omega)) (by omega) (by first | omega | (simp only [List.length_nil]; omega)) (by omega) ?_
      intro vv9 w72 hap
      obtain ⟨A72, cap72, rfl, hA72, hk72, own72x⟩ := app_one (f := intc) (xs := ((xs.take k).map (·.1))) (x := x.1) (A := Ak) (cap := capk) hap (fun x _ => intc_len x) (intc_len _)
      have own72 : ∀ q, inA A72 q → M1 ≤ q := fun q hq => by rcases own72x q hq with h | h; exact ownk q h; (show M1 ≤ q; omega)
      refine ⟨Keep.fresh K70 hk72 (by intro i hi hs; have h1 := ownk i hs; have h2 := ltjAk i hs; show M1 ≤ i; omega), ?_⟩
      have K73 := Keep.fresh K70 hk72 (by intro i hi hs; have h1 := ownk i hs; have h2 := ltjAk i hs; show M1 ≤ i; omega)
      have hsz74 := Keep.size hk72
      replace jb1 := jb1.keep hk72 (fun hs => by have h1 := ownk _ hs; have h2 := ltjAk _ hs; omega)
      have hb1lt := jb1.lt
      replace jb3 := jb3.keep hk72 (fun hs => by have h1 := ownk _ hs; have h2 := ltjAk _ hs; omega)
      have hb3lt := jb3.lt
      replace jb5 := jb5.keep hk72 (fun hs => by have h1 := ownk _ hs; have h2 := ltjAk _ hs; omega)
      have hb5lt := jb5.lt
      replace jb7 := jb7.keep hk72 (fun hs => by have h1 := ownk _ hs; have h2 := ltjAk _ hs; omega)
      have hb7lt := jb7.lt
      replace jb9 := jb9.keep hk72 (fun hs => by have h1 := ownk _ hs; have h2 := ltjAk _ hs; omega)
      have hb9lt := jb9.lt
      replace hb66 := hb66.keep hk72 (fun hs => by have h1 := ownk _ hs; have h2 := ltjAk _ hs; omega)
      have hb66lt := hb66.lt
      replace jAv := SlT.keep jAv hk72 (fun q hq hs => hdis q hs hq)
      replace jhK0 := Keep.fresh jhK0 hk72 (by intro i hi hs; first | exact hs | (exfalso; have h1 := ownk i hs; have h2 := ltjAk i hs; omega) | (have h1 := ownk i hs; have h2 := ltjAk i hs; show _ ∨ _; omega)); have hzjhK0 := Keep.size jhK0
      replace hfenb := Keep.fresh hfenb hk72 (by intro i hi hs; have h1 := ownk i hs; have h2 := ltjAk i hs; show _ ∨ _; omega); have hzhfenb := Keep.size hfenb
      have lt72 := SlT.lt hA72
      have hds75 : ∀ q, inA A72 q → ¬ inA Av q := fun q h1 h2 => by rcases own72x q h1 with h | h; exact hdis q h h2; (have h3 := ltjAv q h2; omega)
      refine GI_cell 30 (.tmp 6) 0 (.slice Av (((xs.take k).map (·.2)).length) capv) (some 18) (by kernel_rfl) (by kernel_rfl) (by kernel_rfl) qjb9 (by show ¬ (M1 ≤ b9); omega) (m := 1) (by kernel_rfl) rfl ?_
      refine GI_final 7 (by kernel_rfl) (by kernel_rfl) ?_
      refine OI_append (t := 30) (at2 := 30) (E := 3) (E2 := 3) (sz := 1) (by_ := 8) (zv := .int .i64 0) (m := ((xs.take k).map (·.2)).length) (k := 1) (.tmp 18) (.tmp 20) (.slice Av (((xs.take k).map (·.2)).length) capv) (.slice (some ⟨b66, 0, none⟩) 1 1) (some 21) (by kernel_rfl) (by kernel_rfl) (by kernel_rfl) (by kernel_rfl) (by kernel_rfl) (by kernel_rfl) (by kernel_rfl) (SlT.slr jAv) (slr_one hb66 (intc_len x.2)) (intc_one x.2) (by first | omega | (simp only [List.length_nil]; omega)) (by omega) (by first | omega | (simp only [List.length_nil]; omega)) (by omega) ?_
      intro vv9 w76 hap
      obtain ⟨A76, cap76, rfl, hA76, hk76, own76x⟩ := app_one (f := intc) (xs := ((xs.take k).map (·.2))) (x := x.2) (A := Av) (cap := capv) hap (fun x _ => intc_len x) (intc_len _)
      have own76 : ∀ q, inA A76 q → M1 ≤ q := fun q hq => by rcases own76x q hq with h | h; exact ownv q h; (show M1 ≤ q; omega)
      have hsz77 := Keep.size hk76
      replace jb1 := jb1.keep hk76 (fun hs => by have h1 := ownv _ hs; have h2 := ltjAv _ hs; omega)
      have hb1lt := jb1.lt
      replace jb3 := jb3.keep hk76 (fun hs => by have h1 := ownv _ hs; have h2 := ltjAv _ hs; omega)
      have hb3lt := jb3.lt
      replace jb5 := jb5.keep hk76 (fun hs => by have h1 := ownv _ hs; have h2 := ltjAv _ hs; omega)
      have hb5lt := jb5.lt
      replace jb7 := jb7.keep hk76 (fun hs => by have h1 := ownv _ hs; have h2 := ltjAv _ hs; omega)
      have hb7lt := jb7.lt
      replace jb9 := jb9.keep hk76 (fun hs => by have h1 := ownv _ hs; have h2 := ltjAv _ hs; omega)
      have hb9lt := jb9.lt
      replace hA72 := SlT.keep hA72 hk76 (fun q hq hs => (fun q h1 h2 => hds75 q h2 h1) q hs hq)
      replace jhK0 := Keep.fresh jhK0 hk76 (by intro i hi hs; first | exact hs | (exfalso; have h1 := ownv i hs; have h2 := ltjAv i hs; omega) | (have h1 := ownv i hs; have h2 := ltjAv i hs; show _ ∨ _; omega)); have hzjhK0 := Keep.size jhK0
      replace hfenb := Keep.fresh hfenb hk76 (by intro i hi hs; have h1 := ownv i hs; have h2 := ltjAv i hs; show _ ∨ _; omega); have hzhfenb := Keep.size hfenb
      have lt76 := SlT.lt hA76
      have hds78 : ∀ q, inA A72 q → ¬ inA A76 q := fun q h1 h2 => by rcases own76x q h2 with h | h; exact hds75 q h1 h; (have h3 := lt72 q h1; omega)
      refine OI_set (m := 1) (kd := false) 30 (.tmp 5) (.tmp 17) 0 (.slice A72 ((((xs.take k).map (·.1)) ++ [x.1]).length) cap72) [.slice A72 ((((xs.take k).map (·.1)) ++ [x.1]).length) cap72] none (by kernel_rfl) (by kernel_rfl) (by kernel_rfl) jb7 (by kernel_rfl) (by kernel_rfl) (by kernel_rfl) (Nat.le_of_ble_eq_true (by kernel_rfl)) (by simp [Value.oneCell']) ?_
      intro w79 hb7_82 hk80 hz81
      replace hb7_82 : Blk w79 b7 [.slice A72 ((((xs.take k).map (·.1)) ++ [x.1]).length) cap72] 30 := hb7_82
      have hsz83 := Keep.size hk80
      replace jb1 := jb1.keep hk80 (by show ¬ (_ = _); omega)
      have hb1lt := jb1.lt
      replace jb3 := jb3.keep hk80 (by show ¬ (_ = _); omega)
      have hb3lt := jb3.lt
      replace jb5 := jb5.keep hk80 (by show ¬ (_ = _); omega)
      have hb5lt := jb5.lt
      replace jb9 := jb9.keep hk80 (by show ¬ (_ = _); omega)
      have hb9lt := jb9.lt
      replace hA72 := SlT.keep hA72 hk80 (fun q hq hs => by have hs : q = b7 := hs; have g0 := own72 q hq; have g1 := lt72 q hq; omega)
      replace hA76 := SlT.keep hA76 hk80 (fun q hq hs => by have hs : q = b7 := hs; have g0 := own76 q hq; have g1 := lt76 q hq; omega)
      replace jhK0 := Keep.fresh jhK0 hk80 (by intro i hi hs; first | exact hs | exact Or.inl hs | exact Or.inr hs | (exfalso; have hs2 : i = b7 := hs; omega)); have hzjhK0 := Keep.size jhK0
      replace hfenb := Keep.fresh hfenb hk80 (by intro i hi hs; have hs2 : i = b7 := hs; show _ ∨ _; omega); have hzhfenb := Keep.size hfenb
      refine OI_set (m := 1) (kd := false) 30 (.tmp 6) (.tmp 21) 0 (.slice A76 ((((xs.take k).map (·.2)) ++ [x.2]).length) cap76) [.slice A76 ((((xs.take k).map (·.2)) ++ [x.2]).length) cap76] none (by kernel_rfl) (by kernel_rfl) (by kernel_rfl) jb9 (by kernel_rfl) (by kernel_rfl) (by kernel_rfl) (Nat.le_of_ble_eq_true (by kernel_rfl)) (by simp [Value.oneCell']) ?_
      intro w84 hb9_87 hk85 hz86
      replace hb9_87 : Blk w84 b9 [.slice A76 ((((xs.take k).map (·.2)) ++ [x.2]).length) cap76] 30 := hb9_87
      have hsz88 := Keep.size hk85
      replace jb1 := jb1.keep hk85 (by show ¬ (_ = _); omega)
      have hb1lt := jb1.lt
      replace jb3 := jb3.keep hk85 (by show ¬ (_ = _); omega)
      have hb3lt := jb3.lt
      replace jb5 := jb5.keep hk85 (by show ¬ (_ = _); omega)
      have hb5lt := jb5.lt
      replace hb7_82 := hb7_82.keep hk85 (by show ¬ (_ = _); omega)
      have hb7lt := hb7_82.lt
      replace hA72 := SlT.keep hA72 hk85 (fun q hq hs => by have hs : q = b9 := hs; have g0 := own72 q hq; have g1 := lt72 q hq; omega)
      replace hA76 := SlT.keep hA76 hk85 (fun q hq hs => by have hs : q = b9 := hs; have g0 := own76 q hq; have g1 := lt76 q hq; omega)
      replace jhK0 := Keep.fresh jhK0 hk85 (by intro i hi hs; first | exact hs | exact Or.inl hs | exact Or.inr hs | (exfalso; have hs2 : i = b9 := hs; omega)); have hzjhK0 := Keep.size jhK0
      replace hfenb := Keep.fresh hfenb hk85 (by intro i hi hs; have hs2 : i = b9 := hs; show _ ∨ _; omega); have hzhfenb := Keep.size hfenb
      refine OI_end rfl ?_
      refine X_then ?_
      refine V_seq ?_
      refine V_region ?_
      refine OI_cell 30 (.tmp 5) 0 (.slice A72 ((((xs.take k).map (·.1)) ++ [x.1]).length) cap72) (some 22) (by kernel_rfl) (by kernel_rfl) hb7_82 (m := 1) (by kernel_rfl) rfl ?_
      refine OI_static 3 [(2, .pointer (some ⟨b1, 0, none⟩)), (3, .pointer (some ⟨b3, 0, none⟩)), (4, .pointer (some ⟨b5, 0, none⟩)), (24, .bool (decide ((((((xs.take k).map (·.1)) ++ [x.1]).length : Nat) : Int) > 1000)))] (by kernel_rfl) ?_
      refine OI_end rfl ?_
      refine X_then ?_
      refine V_if ((((((xs.take k).map (·.1)) ++ [x.1]).length : Nat) : Int) > 1000) (by kernel_rfl) (fun hc89 => ?_) (fun hc89 => ?_)
      · skip
        exact (by simp only [List.length_append, List.length_cons, List.length_nil] at hc89; omega : False).elim
      · skip
        refine V_skip ?_
        refine X_block ?_
        exact fun a _ => ⟨hfenb, A72, cap72, A76, cap76, jb1, jb3, jb5, jhK0, by rw [hs1]; exact hb7_82, by rw [hs2]; exact hb9_87, by rw [hs1]; exact hA72, by rw [hs2]; exact hA76, own72, own76, hds78⟩
  · skip
    intro D M1 W hD hM ⟨Ak, capk, Av, capv, jb1, jb3, jb5, jhK0, jb7, jb9, jAk, jAv, ownk, ownv, hdis⟩ hDD
    have hzjhK0 := Keep.size jhK0
    have hb1lt := jb1.lt
    have hb3lt := jb3.lt
    have hb5lt := jb5.lt
    have hb7lt := jb7.lt
    have hb9lt := jb9.lt
    have ltjAk := SlT.lt jAk
    have ltjAv := SlT.lt jAv
    rw [List.take_length] at jAk jAv jb7 jb9
    rw [List.length_map] at jb7 jb9
    refine X_block ?_
    refine X_then ?_
    refine V_seq ?_
    refine V_draws (acts [2, 3, 4]) (fun q => q = b1 ∨ q = b3 ∨ q = b5) [[0, 2, 1, 3, 4]] (by kernel_rfl) (by repeat first | exact (by first | exact sure_postM | exact sure_rQ2 | exact sure_no | exact sure_body (by rintro _ _ ⟨h, _⟩; exact ⟨_, h⟩)) | refine sure_then ?_ | refine sure_block ?_ | refine sure_join ?_) (by kernel_rfl) ?_
    intro w91 hk90 he92 L hL93
    have hsz94 := Keep.size hk90
    replace jb1 := jb1.keep hk90 (fun f => f)
    have hb1lt := jb1.lt
    replace jb3 := jb3.keep hk90 (fun f => f)
    have hb3lt := jb3.lt
    replace jb5 := jb5.keep hk90 (fun f => f)
    have hb5lt := jb5.lt
    replace jb7 := jb7.keep hk90 (fun f => f)
    have hb7lt := jb7.lt
    replace jb9 := jb9.keep hk90 (fun f => f)
    have hb9lt := jb9.lt
    replace jAk := SlT.keep0 jAk hk90
    replace jAv := SlT.keep0 jAv hk90
    replace jhK0 := Keep.tr jhK0 (Keep.ofNone hk90); have hzjhK0 := Keep.size jhK0
    replace hDD := (Keep.block hk90 _ (Array.getElem?_eq_some_iff.1 hDD).1 (fun f => f)).trans hDD
    have qjb1 := jb1
    have qjb3 := jb3
    have qjb5 := jb5
    have qjb7 := jb7
    have qjb9 := jb9
    have K95 : Keep (fun q => q = b1 ∨ q = b3 ∨ q = b5) w91 w91 := Keep.refl _ _
    obtain rfl := List.mem_singleton.1 hL93
    refine GI_cell 30 (.tmp 5) 0 (.slice Ak xs.length capk) (some 25) (by kernel_rfl) (by kernel_rfl) (by kernel_rfl) qjb7 (by show ¬ (b7 = b1 ∨ b7 = b3 ∨ b7 = b5); omega) (m := 1) (by kernel_rfl) rfl ?_
    refine GI_set (m := 1) (kd := false) 30 (.tmp 2) (.tmp 25) 0 (.slice Ak xs.length capk) [.slice Ak xs.length capk] none (by kernel_rfl) (by kernel_rfl) (by kernel_rfl) (by kernel_rfl) jb1 (by kernel_rfl) (by kernel_rfl) (by kernel_rfl) (Nat.le_of_ble_eq_true (by kernel_rfl)) (by simp [Value.oneCell']) K95 (fun hh => by show b1 = b1 ∨ b1 = b3 ∨ b1 = b5; omega) ?_
    intro w96 hb1_99 hk97 hz98 K100
    replace hb1_99 : Blk w96 b1 [.slice Ak xs.length capk] 30 := hb1_99
    have hsz101 := Keep.size hk97
    replace jb3 := jb3.keep hk97 (by show ¬ (_ = _); omega)
    have hb3lt := jb3.lt
    replace jb5 := jb5.keep hk97 (by show ¬ (_ = _); omega)
    have hb5lt := jb5.lt
    replace jb7 := jb7.keep hk97 (by show ¬ (_ = _); omega)
    have hb7lt := jb7.lt
    replace jb9 := jb9.keep hk97 (by show ¬ (_ = _); omega)
    have hb9lt := jb9.lt
    replace jAk := SlT.keep jAk hk97 (fun q hq hs => by have hs : q = b1 := hs; have g0 := ownk q hq; have g1 := ltjAk q hq; omega)
    replace jAv := SlT.keep jAv hk97 (fun q hq hs => by have hs : q = b1 := hs; have g0 := ownv q hq; have g1 := ltjAv q hq; omega)
    replace jhK0 := Keep.fresh jhK0 hk97 (by intro i hi hs; first | exact hs | exact Or.inl hs | exact Or.inr hs | (exfalso; have hs2 : i = b1 := hs; omega)); have hzjhK0 := Keep.size jhK0
    replace hDD := (Keep.block hk97 _ (Array.getElem?_eq_some_iff.1 hDD).1 (by show ¬ (_ = _); omega)).trans hDD
    refine GI_cell 30 (.tmp 6) 0 (.slice Av xs.length capv) (some 26) (by kernel_rfl) (by kernel_rfl) (by kernel_rfl) qjb9 (by show ¬ (b9 = b1 ∨ b9 = b3 ∨ b9 = b5); omega) (m := 1) (by kernel_rfl) rfl ?_
    refine GI_final 3 (by kernel_rfl) (by kernel_rfl) ?_
    refine OI_set (m := 1) (kd := false) 30 (.tmp 3) (.tmp 26) 0 (.slice Av xs.length capv) [.slice Av xs.length capv] none (by kernel_rfl) (by kernel_rfl) (by kernel_rfl) jb3 (by kernel_rfl) (by kernel_rfl) (by kernel_rfl) (Nat.le_of_ble_eq_true (by kernel_rfl)) (by simp [Value.oneCell']) ?_
    intro w102 hb3_105 hk103 hz104
    replace hb3_105 : Blk w102 b3 [.slice Av xs.length capv] 30 := hb3_105
    have hsz106 := Keep.size hk103
    replace hb1_99 := hb1_99.keep hk103 (by show ¬ (_ = _); omega)
    have hb1lt := hb1_99.lt
    replace jb5 := jb5.keep hk103 (by show ¬ (_ = _); omega)
    have hb5lt := jb5.lt
    replace jb7 := jb7.keep hk103 (by show ¬ (_ = _); omega)
    have hb7lt := jb7.lt
    replace jb9 := jb9.keep hk103 (by show ¬ (_ = _); omega)
    have hb9lt := jb9.lt
    replace jAk := SlT.keep jAk hk103 (fun q hq hs => by have hs : q = b3 := hs; have g0 := ownk q hq; have g1 := ltjAk q hq; omega)
    replace jAv := SlT.keep jAv hk103 (fun q hq hs => by have hs : q = b3 := hs; have g0 := ownv q hq; have g1 := ltjAv q hq; omega)
    replace jhK0 := Keep.fresh jhK0 hk103 (by intro i hi hs; first | exact hs | exact Or.inl hs | exact Or.inr hs | (exfalso; have hs2 : i = b3 := hs; omega)); have hzjhK0 := Keep.size jhK0
    replace hDD := (Keep.block hk103 _ (Array.getElem?_eq_some_iff.1 hDD).1 (by show ¬ (_ = _); omega)).trans hDD
    refine OI_set (m := 1) (kd := false) 4 (.tmp 4) (.const (Value.bool true)) 0 (.bool true) [.bool true] none (by kernel_rfl) (by kernel_rfl) (by kernel_rfl) jb5 (by kernel_rfl) (by kernel_rfl) (by kernel_rfl) (Nat.le_of_ble_eq_true (by kernel_rfl)) (by simp [Value.oneCell']) ?_
    intro w107 hb5_110 hk108 hz109
    replace hb5_110 : Blk w107 b5 [.bool true] 4 := hb5_110
    have hsz111 := Keep.size hk108
    replace hb1_99 := hb1_99.keep hk108 (by show ¬ (_ = _); omega)
    have hb1lt := hb1_99.lt
    replace hb3_105 := hb3_105.keep hk108 (by show ¬ (_ = _); omega)
    have hb3lt := hb3_105.lt
    replace jb7 := jb7.keep hk108 (by show ¬ (_ = _); omega)
    have hb7lt := jb7.lt
    replace jb9 := jb9.keep hk108 (by show ¬ (_ = _); omega)
    have hb9lt := jb9.lt
    replace jAk := SlT.keep jAk hk108 (fun q hq hs => by have hs : q = b5 := hs; have g0 := ownk q hq; have g1 := ltjAk q hq; omega)
    replace jAv := SlT.keep jAv hk108 (fun q hq hs => by have hs : q = b5 := hs; have g0 := ownv q hq; have g1 := ltjAv q hq; omega)
    replace jhK0 := Keep.fresh jhK0 hk108 (by intro i hi hs; first | exact hs | exact Or.inl hs | exact Or.inr hs | (exfalso; have hs2 : i = b5 := hs; omega)); have hzjhK0 := Keep.size jhK0
    replace hDD := (Keep.block hk108 _ (Array.getElem?_eq_some_iff.1 hDD).1 (by show ¬ (_ = _); omega)).trans hDD
    refine OI_end rfl ?_
    refine X_then ?_
    refine V_ret ?_
    exact leave1 (.tuple #[.slice Ak xs.length capk, .slice Av xs.length capv, .bool true]) (.inl rfl) hDD (fun w' hk => ⟨res_cells3 (n1 := 1) (n2 := 1) (n3 := 1) rfl rfl rfl rfl (by kernel_rfl) (by kernel_rfl) (by kernel_rfl) (Blk.quiet hb1_99 hk) (Blk.quiet hb3_105 hk) (Blk.quiet hb5_110 hk), Ak, capk, Av, capv, rfl, SlT.quiet jAk hk, SlT.quiet jAv hk, Keep.quiet jhK0 hk (by omega), fun q h => (by have := ownk q h; omega), fun q h => (by have := ownv q h; omega)⟩)
end Go.Al
