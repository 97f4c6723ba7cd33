/-
  Put together out of 6 texts: Walks of package refer: who waits. Walks of package refer: Submit. Walks of package refer: Deposit, Refund. Walks of package refer: begins. Walks of package refer: decides. Walks of package refer: ends, Cancel.
-/
import Derived.Test.YtjjfimbihdoknaaGreatReferRefundsB3
namespace Go.Al
open Go Go.RowKit Go.Proofs
set_option maxRecDepth 10000 in
set_option maxHeartbeats 2000000 in
theorem waits_spec (H : Nat → Prop) (r g : Nat) (ts : List Trk) (rs : List Rfm) (F : Nat → Prop) (v : Nat) (s : VS) (j : Nat) (now : Int) (w : World) (hR : Rfr H w r g ts rs) (hV : VotT F w v s) (hHF : ∀ q, H q → ¬ F q) (hj : j < ts.length) : Calls Tryz.prog 103 #[.pointer (some ⟨r, 0, none⟩), .pointer (some ⟨v, 0, none⟩), .int .i64 (j : Int), .int .i64 now] w fun e w' => ∃ A' cap', e = .returned (.tuple #[.slice A' (waitL ts (j : Int) now 0 rs).length cap', .int .i64 (decN (j : Int) rs)]) ∧ SlT w' 1 intc A' cap' (sortD (fun r => (tallyT s r).a) (waitL ts (j : Int) now 0 rs)) ∧ (∀ q, inA A' q → w.heap.size ≤ q) ∧ Keep none_ w w' := by
 have hHlt := Rfr.lt hR
 have hrH := Rfr.at_ hR
 have hgH := Rfr.atg hR
 have hrlt := hHlt _ hrH
 have hglt := hHlt _ hgH
 have hin := Rfr.inn hR
 obtain ⟨A, cap, hr, hA, hAo, hrg⟩ := Rfr.parts hR
 have hAlt := SlT.lt hA
 have hAr : ∀ q, inA A q → q ≠ r ∧ q ≠ g ∧ q < w.heap.size := fun q hq => ⟨(hAo q hq).2.1, (hAo q hq).2.2, hAlt q hq⟩
 have hgo : ∀ q, only g q → q ≠ r ∧ q = g := fun q hq => ⟨fun e => hrg (e.symm.trans hq), hq⟩
 have hgl : ∀ q, only g q → q < w.heap.size := fun q hq => by rw [show q = g from hq]; exact hglt
 have hHo : ∀ q, H q → 0 ≤ q := fun q _ => Nat.zero_le q
 have htl := hin.tl
 have hrl := hin.rl
 have hFlt := VotT.lt hV
 have hvlt := hFlt _ (VotT.at_ hV)
 have hVr : ∀ q, F q → q ≠ r := fun q hq e => hHF r hrH (e ▸ hq)
 obtain ⟨j9, hjj, _, htk, htm⟩ := trkA_at (ts := ts) (i := (j : Int)) (by omega)
 rw [show j9 = j by omega] at htk
 have hK0 : Keep none_ w w := Keep.refl _ _
 have hzhK0 := Keep.size hK0
 refine enterM Tryz.func103 rfl [pt r, pt v, nt ((j : Nat) : Int), nt now] 62 rfl rfl rfl ?_
 refine V_pick [(0, pt r), (1, pt v), (2, nt ((j : Nat) : Int)), (3, nt now)] rfl ?_
 refine Vr ?_
 refine OI_box 34 (.tmp 0) (pt r) [pt r] (some 4) (by kernel_rfl) (by kernel_rfl) (by kernel_rfl) ?_
 intro b1 w1 e1 hb1 k1 z1
 have hsz2 := Keep.size k1
 replace hr := hr.keep k1 (fun f => f)
 replace hA := SlT.keep0 hA k1
 replace hR := Rfr.keep hR k1 (fun _ _ f => f)
 replace hV := VotT.keep hV k1 (fun _ _ f => f)
 replace hK0 := Keep.tr hK0 (Keep.ofNone k1)
 have hb1lt := hb1.lt
 refine OI_box 33 (.tmp 1) (pt v) [pt v] (some 5) (by kernel_rfl) (by kernel_rfl) (by kernel_rfl) ?_
 intro b3 w3 e3 hb3 k3 z3
 have hsz4 := Keep.size k3
 replace hr := hr.keep k3 (fun f => f)
 replace hb1 := hb1.keep k3 (fun f => f)
 replace hA := SlT.keep0 hA k3
 replace hR := Rfr.keep hR k3 (fun _ _ f => f)
 replace hV := VotT.keep hV k3 (fun _ _ f => f)
 replace hK0 := Keep.tr hK0 (Keep.ofNone k3)
 have hb3lt := hb3.lt
 refine OI_box 3 (.tmp 2) (nt ((j : Nat) : Int)) [nt ((j : Nat) : Int)] (some 6) (by kernel_rfl) (by kernel_rfl) (by kernel_rfl) ?_
 intro b5 w5 e5 hb5 k5 z5
 have hsz6 := Keep.size k5
 replace hr := hr.keep k5 (fun f => f)
 replace hb1 := hb1.keep k5 (fun f => f)
 replace hb3 := hb3.keep k5 (fun f => f)
 replace hA := SlT.keep0 hA k5
 replace hR := Rfr.keep hR k5 (fun _ _ f => f)
 replace hV := VotT.keep hV k5 (fun _ _ f => f)
 replace hK0 := Keep.tr hK0 (Keep.ofNone k5)
 have hb5lt := hb5.lt
 refine OI_box 3 (.tmp 3) (nt now) [nt now] (some 7) (by kernel_rfl) (by kernel_rfl) (by kernel_rfl) ?_
 intro b7 w7 e7 hb7 k7 z7
 have hsz8 := Keep.size k7
 replace hr := hr.keep k7 (fun f => f)
 replace hb1 := hb1.keep k7 (fun f => f)
 replace hb3 := hb3.keep k7 (fun f => f)
 replace hb5 := hb5.keep k7 (fun f => f)
 replace hA := SlT.keep0 hA k7
 replace hR := Rfr.keep hR k7 (fun _ _ f => f)
 replace hV := VotT.keep hV k7 (fun _ _ f => f)
 replace hK0 := Keep.tr hK0 (Keep.ofNone k7)
 have hb7lt := hb7.lt
 refine Os 6 [(4, pt b1), (5, pt b3), (6, pt b5), (7, pt b7), (8, .slice none 0 0), (9, nt 0)] ?_
 refine Oer ?_
 refine OI_alloc 72 (.slice none 0 0) [.slice none 0 0] (some 10) (by kernel_rfl) (by kernel_rfl) (by kernel_rfl) ?_
 intro b9 w9 e9 hb9 k9 z9
 have hsz10 := Keep.size k9
 replace hr := hr.keep k9 (fun f => f)
 replace hb1 := hb1.keep k9 (fun f => f)
 replace hb3 := hb3.keep k9 (fun f => f)
 replace hb5 := hb5.keep k9 (fun f => f)
 replace hb7 := hb7.keep k9 (fun f => f)
 replace hA := SlT.keep0 hA k9
 replace hR := Rfr.keep hR k9 (fun _ _ f => f)
 replace hV := VotT.keep hV k9 (fun _ _ f => f)
 replace hK0 := Keep.tr hK0 (Keep.ofNone k9)
 have hb9lt := hb9.lt
 refine Oer ?_
 refine OI_alloc 3 (nt 0) [nt 0] (some 11) (by kernel_rfl) (by kernel_rfl) (by kernel_rfl) ?_
 intro b11 w11 e11 hb11 k11 z11
 have hsz12 := Keep.size k11
 replace hr := hr.keep k11 (fun f => f)
 replace hb1 := hb1.keep k11 (fun f => f)
 replace hb3 := hb3.keep k11 (fun f => f)
 replace hb5 := hb5.keep k11 (fun f => f)
 replace hb7 := hb7.keep k11 (fun f => f)
 replace hb9 := hb9.keep k11 (fun f => f)
 replace hA := SlT.keep0 hA k11
 replace hR := Rfr.keep hR k11 (fun _ _ f => f)
 replace hV := VotT.keep hV k11 (fun _ _ f => f)
 replace hK0 := Keep.tr hK0 (Keep.ofNone k11)
 have hb11lt := hb11.lt
 refine OI_set (m := 1) (kd := false) 3 (.tmp 11) (.const (Value.int IntKind.i64 0)) 0 (nt 0) [nt 0] none (by kernel_rfl) (by kernel_rfl) (by kernel_rfl) hb11 (by kernel_rfl) (by kernel_rfl) (by kernel_rfl) (Nat.le_of_ble_eq_true (by kernel_rfl)) (by simp [Value.oneCell']) ?_
 intro w13 hb11_16 hk14 hz15
 replace hb11_16 : Blk w13 b11 [nt 0] 3 := hb11_16
 have hsz17 := Keep.size hk14
 replace hr := hr.keep hk14 (by show ¬ (_ = _); omega)
 replace hb1 := hb1.keep hk14 (by show ¬ (_ = _); omega)
 replace hb3 := hb3.keep hk14 (by show ¬ (_ = _); omega)
 replace hb5 := hb5.keep hk14 (by show ¬ (_ = _); omega)
 replace hb7 := hb7.keep hk14 (by show ¬ (_ = _); omega)
 replace hb9 := hb9.keep hk14 (by show ¬ (_ = _); omega)
 replace hA := SlT.keep hA hk14 (fun q hq hs => by have hs : q = b11 := hs; have g0 := hAr q hq; have g1 := hAlt q hq; omega)
 replace hR := Rfr.keep hR hk14 (fun q hq hs => by have hs : q = b11 := hs; have g0 := hHo q hq; have g1 := hHlt q hq; omega)
 replace hV := VotT.keep hV hk14 (fun q hq hs => by have hs : q = b11 := hs; have g0 := hVr q hq; have g1 := hFlt q hq; omega)
 replace hK0 := Keep.fresh hK0 hk14 (by intro i hi hs; first | exact hs | exact Or.inl hs | exact Or.inr hs | (exfalso; have hs2 : i = b11 := hs; omega))
 refine Oe ?_
 refine V_seq ?_
 refine Vr ?_
 refine Oc 34 (.tmp 4) 0 (pt r) (some 14) hb1 rfl ?_
 refine Ok { callee := (Callee.value (Operand.func 48)), args := #[(Operand.tmp 14)], argTypes := #[34] } 48 #[pt r] (some 15) (all_at r g _ _ _ _ hr) ?_
 rintro _ w20 ⟨bg22, bs23, bn24, rfl, hbg22, hbs23, hbn24, hk21, hgebg22, hgebs23, hgebn24⟩
 refine ⟨_, rfl, ?_⟩
 have hsz25 := Keep.size hk21
 replace hr := hr.keep hk21 (fun f => f)
 replace hb1 := hb1.keep hk21 (fun f => f)
 replace hb3 := hb3.keep hk21 (fun f => f)
 replace hb5 := hb5.keep hk21 (fun f => f)
 replace hb7 := hb7.keep hk21 (fun f => f)
 replace hb9 := hb9.keep hk21 (fun f => f)
 replace hb11_16 := hb11_16.keep hk21 (fun f => f)
 replace hA := SlT.keep0 hA hk21
 replace hR := Rfr.keep hR hk21 (fun _ _ f => f)
 replace hV := VotT.keep hV hk21 (fun _ _ f => f)
 replace hK0 := Keep.tr hK0 (Keep.ofNone hk21)
 have hbg22lt := hbg22.lt
 have hbs23lt := hbs23.lt
 have hbn24lt := hbn24.lt
 refine Oe ?_
 refine V_block ?_
 obtain ⟨D, hD9, hDH⟩ := Rfr.grqF hR
 obtain ⟨_, _, _, _, A2, cap2, hat2, hAD2⟩ := hD9
 have hA2 := hat2.sl
 have owA2 : ∀ q, inA A2 q → q < w.heap.size := fun q hq => hHlt q (hDH q (hAD2 q hq))
 refine V_pick [(4, pt b1), (5, pt b3), (6, pt b5), (7, pt b7), (10, pt b9), (11, pt b11), (15, .func (.func 183) #[] #[pt bg22, pt bs23, pt bn24])] rfl ?_
 have hN0 : w.heap.size ≤ w20.heap.size := Keep.size hK0
 refine V_range2 (gf := 183) (caps := #[pt bg22, pt bs23, pt bn24]) (m := rs.length) (by kernel_rfl) (by kernel_rfl) (by kernel_rfl) (alongQ bg22 bs23 bn24 g cap2 A2 rs (by omega)) (⟨hbg22, hat2, ⟨hbs23, hbn24, hA2⟩⟩) (fun W W' h k => ⟨h.1.quiet k, h.2.1.quiet k, h.2.2.quiet k⟩) (GQ.enc2_size _) (fun M1 k W => ∃ Ak : Option Addr, ∃ capk : Nat, (Blk W r [.slice A ts.length cap, pt g] 97) ∧ (Blk W b1 [pt r] 34) ∧ (Blk W b3 [pt v] 33) ∧ (Blk W b5 [nt ((j : Nat) : Int)] 3) ∧ (Blk W b7 [nt now] 3) ∧ (Blk W bs23 [nt 0] 3) ∧ (Blk W bn24 [nt 0] 3) ∧ (SlT W 18 Trk.cells A cap ts) ∧ (SlT W 47 GQ.Ci.cells A2 cap2 (cellsQ 0 rs)) ∧ (VotT F W v s) ∧ (Keep none_ w W) ∧ (Blk W b9 [.slice Ak ((waitL ts ((j : Nat) : Int) now 0 (rs.take k)).length) capk] 72) ∧ (Blk W b11 [nt (decN ((j : Nat) : Int) (rs.take k))] 3) ∧ (SlT W 1 intc Ak capk (waitL ts ((j : Nat) : Int) now 0 (rs.take k))) ∧ (∀ q, inA Ak q → M1 ≤ q)) (fun M1 c k W => False) (fun M1 k W W' h hk => by obtain ⟨Ak, capk, jr, jb1, jb3, jb5, jb7, jbs23, jbn24, jA, jA2, jhV, jhK0, jb9, jb11, jAk, ownk⟩ := h; exact ⟨Ak, capk, jr.quiet hk, jb1.quiet hk, jb3.quiet hk, jb5.quiet hk, jb7.quiet hk, jbs23.quiet hk, jbn24.quiet hk, jA.quiet hk, jA2.quiet hk, VotT.quiet jhV hk, jhK0.quiet hk (by omega), jb9.quiet hk, jb11.quiet hk, jAk.quiet hk, ownk⟩) (fun _ _ _ _ _ h _ => h.elim) (fun M1 hM1 => ⟨none, 0, hr, hb1, hb3, hb5, hb7, hbs23, hbn24, hA, hA2, hV, hK0, hb9, hb11_16, SlT.nil _ _ _, fun q h => (inA_none h).elim⟩) (fun M1 k W h => by obtain ⟨Ak, capk, jr, jb1, jb3, jb5, jb7, jbs23, jbn24, jA, jA2, jhV, jhK0, jb9, jb11, jAk, ownk⟩ := h; exact ⟨jbs23, jbn24, jA2⟩) ?_ ?_ (fun _ _ _ _ _ _ _ _ h _ => h.elim)
 ·
  intro lp D M1 k W hD hl hM hMW hkm ⟨Ak, capk, jr, jb1, jb3, jb5, jb7, jbs23, jbn24, jA, jA2, jhV, jhK0, jb9, jb11, jAk, ownk⟩ ⟨rr, hrr⟩ hDD
  have hzjhK0 := Keep.size jhK0
  have hrlt := jr.lt
  have hb1lt := jb1.lt
  have hb3lt := jb3.lt
  have hb5lt := jb5.lt
  have hb7lt := jb7.lt
  have hb9lt := jb9.lt
  have hb11lt := jb11.lt
  have hbs23lt := jbs23.lt
  have hbn24lt := jbn24.lt
  have ltjA := SlT.lt jA
  have ltjA2 := SlT.lt jA2
  have ltjAk := SlT.lt jAk
  obtain ⟨x, hx⟩ : ∃ x, rs[k]? = some x := ⟨_, List.getElem?_eq_getElem (by omega)⟩
  rw [GQ.enc2_at (zipQ_at0 hx)]
  have hst1 := waitL_step (ts := ts) (of := ((j : Nat) : Int)) (now := now) hx
  have hst2 := decN_step (of := ((j : Nat) : Int)) hx
  have hwl : (waitL ts ((j : Nat) : Int) now 0 (rs.take k)).length ≤ 12 := Nat.le_trans (waitL_len _ 0) (by rw [List.length_take]; omega)
  have hdn := decN_bnd (of := ((j : Nat) : Int)) (rs.take k)
  have hdl : (rs.take k).length ≤ 12 := by rw [List.length_take]; omega
  refine V_pick [(4, pt b1), (6, pt b5), (7, pt b7), (10, pt b9), (11, pt b11), (16, nt ((k : Nat) : Int)), (17, .agg (Rfm.cells x).toArray)] rfl ?_
  have hfen : Keep (fen w20.heap.size M1) W W := Keep.refl _ _
  have hzhfen := Keep.size hfen
  refine Vr ?_
  refine Os 1 [(4, pt b1), (6, pt b5), (7, pt b7), (10, pt b9), (11, pt b11), (12, nt ((k : Nat) : Int)), (17, .agg (Rfm.cells x).toArray)] ?_
  refine Oe ?_
  refine V_region ?_
  refine OI_alloc 57 (.agg (Rfm.cells Rfm.zero).toArray) (Rfm.cells Rfm.zero) (some 13) (by kernel_rfl) (by kernel_rfl) (by kernel_rfl) ?_
  intro b26 w26 e26 hb26 k26 z26
  have hsz27 := Keep.size k26
  replace jr := jr.keep k26 (fun f => f)
  replace jb1 := jb1.keep k26 (fun f => f)
  replace jb3 := jb3.keep k26 (fun f => f)
  replace jb5 := jb5.keep k26 (fun f => f)
  replace jb7 := jb7.keep k26 (fun f => f)
  replace jb9 := jb9.keep k26 (fun f => f)
  replace jb11 := jb11.keep k26 (fun f => f)
  replace jbs23 := jbs23.keep k26 (fun f => f)
  replace jbn24 := jbn24.keep k26 (fun f => f)
  replace jA := SlT.keep0 jA k26
  replace jA2 := SlT.keep0 jA2 k26
  replace jAk := SlT.keep0 jAk k26
  replace jhV := VotT.keep jhV k26 (fun _ _ f => f)
  replace jhK0 := Keep.tr jhK0 (Keep.ofNone k26)
  replace hfen := Keep.tr hfen (Keep.ofNone k26)
  have hb26lt := hb26.lt
  refine OI_set (m := 45) (kd := true) 57 (.tmp 13) (.tmp 17) 0 (.agg (Rfm.cells x).toArray) (Rfm.cells x) none (by kernel_rfl) (by kernel_rfl) (by kernel_rfl) hb26 (by kernel_rfl) rfl (Rfm.len _) (Nat.le_of_ble_eq_true (by kernel_rfl)) (Rfm.one _) ?_
  intro w28 hb26_31 hk29 hz30
  replace hb26_31 : Blk w28 b26 (Rfm.cells x) 57 := (Blk.eqL (Rfm.over _ _) hb26_31)
  have hsz32 := Keep.size hk29
  replace jr := jr.keep hk29 (by show ¬ (_ = _); omega)
  replace jb1 := jb1.keep hk29 (by show ¬ (_ = _); omega)
  replace jb3 := jb3.keep hk29 (by show ¬ (_ = _); omega)
  replace jb5 := jb5.keep hk29 (by show ¬ (_ = _); omega)
  replace jb7 := jb7.keep hk29 (by show ¬ (_ = _); omega)
  replace jb9 := jb9.keep hk29 (by show ¬ (_ = _); omega)
  replace jb11 := jb11.keep hk29 (by show ¬ (_ = _); omega)
  replace jbs23 := jbs23.keep hk29 (by show ¬ (_ = _); omega)
  replace jbn24 := jbn24.keep hk29 (by show ¬ (_ = _); omega)
  replace jA := SlT.keep jA hk29 (fun q hq hs => by have hs : q = b26 := hs; have g0 := hAr q hq; have g1 := ltjA q hq; omega)
  replace jA2 := SlT.keep jA2 hk29 (fun q hq hs => by have hs : q = b26 := hs; have g0 := owA2 q hq; have g1 := ltjA2 q hq; omega)
  replace jAk := SlT.keep jAk hk29 (fun q hq hs => by have hs : q = b26 := hs; have g0 := ownk q hq; have g1 := ltjAk q hq; omega)
  replace jhV := VotT.keep jhV hk29 (fun q hq hs => by have hs : q = b26 := hs; have g0 := hVr q hq; have g1 := hFlt q hq; omega)
  replace jhK0 := Keep.fresh jhK0 hk29 (by intro i hi hs; first | exact hs | exact Or.inl hs | exact Or.inr hs | (exfalso; have hs2 : i = b26 := hs; omega))
  replace hfen := Keep.fresh hfen hk29 (by intro i hi hs; have hs2 : i = b26 := hs; show _ ∨ _; omega)
  refine OI_end rfl ?_
  refine X_begin2 hfen ?_
  intro W2 hk2 ⟨r2, hr2⟩ hD2
  have hsz33 := Keep.size hk2
  replace jr := Blk.quiet jr hk2
  replace jb1 := Blk.quiet jb1 hk2
  replace jb3 := Blk.quiet jb3 hk2
  replace jb5 := Blk.quiet jb5 hk2
  replace jb7 := Blk.quiet jb7 hk2
  replace jb9 := Blk.quiet jb9 hk2
  replace jb11 := Blk.quiet jb11 hk2
  replace jbs23 := Blk.quiet jbs23 hk2
  replace jbn24 := Blk.quiet jbn24 hk2
  replace hb26_31 := Blk.quiet hb26_31 hk2
  replace jA := SlT.quiet jA hk2
  replace jA2 := SlT.quiet jA2 hk2
  replace jAk := SlT.quiet jAk hk2
  replace jhV := VotT.quiet jhV hk2
  replace jhK0 := Keep.quiet jhK0 hk2 (by omega)
  have hzhk2 := Keep.size hk2
  have hfenb : Keep (fen w20.heap.size M1) W2 W2 := Keep.refl _ _
  have hzhfenb := Keep.size hfenb
  refine V_block ?_
  refine V_block ?_
  refine Vr ?_
  refine Os 1 [(4, pt b1), (6, pt b5), (7, pt b7), (10, pt b9), (11, pt b11), (12, nt ((k : Nat) : Int)), (13, pt b26), (19, pt b26)] ?_
  refine Oc 3 (.tmp 19) 0 (nt x.state) (some 20) hb26_31 rfl ?_
  refine Os 4 [(4, pt b1), (6, pt b5), (7, pt b7), (10, pt b9), (11, pt b11), (12, nt ((k : Nat) : Int)), (13, pt b26), (22, .bool (!(decide (x.state = 1))))] ?_
  by_cases hg34 : x.state = 1
  ·
   refine OI_eq [(4, pt b1), (6, pt b5), (7, pt b7), (10, pt b9), (11, pt b11), (12, nt ((k : Nat) : Int)), (13, pt b26), (22, .bool false)] (by first | simp [hg34] | rfl) ?_
   refine Os 5 [(4, pt b1), (6, pt b5), (7, pt b7), (10, pt b9), (11, pt b11), (12, nt ((k : Nat) : Int)), (13, pt b26), (22, .bool false), (23, .pointer (some ⟨b26, 1, none⟩))] ?_
   refine Oc 3 (.tmp 23) 1 (nt x.track) (some 24) hb26_31 rfl ?_
   refine Oc 3 (.tmp 6) 0 (nt ((j : Nat) : Int)) (some 25) jb5 rfl ?_
   refine Os 10 [(4, pt b1), (6, pt b5), (7, pt b7), (10, pt b9), (11, pt b11), (12, nt ((k : Nat) : Int)), (13, pt b26), (18, .bool (!(decide (x.track = ((j : Nat) : Int)))))] ?_
   refine Oe ?_
   refine V_not (x.track = ((j : Nat) : Int)) (by kernel_rfl) (fun hc35 => ?_) (fun hc35 => ?_)
   ·
    refine V_skip ?_
    refine X_block ?_
    refine X_block ?_
    obtain ⟨hwa, hwb⟩ : waitB ts ((j : Nat) : Int) now x = false ∧ decB ((j : Nat) : Int) x = false := wait_skip (.inr hc35)
    rw [hwa] at hst1
    rw [hwb] at hst2
    replace hst1 := hst1.trans (show _ ++ [] = _ from List.append_nil _)
    replace hst2 := hst2.trans (show _ + 0 = _ from Int.add_zero _)
    exact fun a _ => ⟨hfenb, Ak, capk, jr, jb1, jb3, jb5, jb7, jbs23, jbn24, jA, jA2, jhV, jhK0, by rw [hst1]; exact jb9, by rw [hst2]; exact jb11, by rw [hst1]; exact jAk, ownk⟩
   refine Vr ?_
   refine Os 1 [(4, pt b1), (6, pt b5), (7, pt b7), (10, pt b9), (11, pt b11), (12, nt ((k : Nat) : Int)), (13, pt b26), (29, .pointer (some ⟨b26, 39, none⟩))] ?_
   refine Oc 3 (.tmp 29) 39 (nt x.since) (some 30) hb26_31 rfl ?_
   refine Os 4 [(4, pt b1), (6, pt b5), (7, pt b7), (10, pt b9), (11, pt b11), (12, nt ((k : Nat) : Int)), (13, pt b26), (28, .bool (!(decide (x.since = -1))))] ?_
   refine Oe ?_
   refine V_not (x.since = -1) (by kernel_rfl) (fun hc36 => ?_) (fun hc36 => ?_)
   ·
    refine V_region ?_
    refine Oc 3 (.tmp 11) 0 (nt (decN ((j : Nat) : Int) (rs.take k))) (some 32) jb11 rfl ?_
    have hw37 : IntKind.i64.wrap ((decN ((j : Nat) : Int) (rs.take k)) + 1) = (decN ((j : Nat) : Int) (rs.take k)) + 1 := (wrap64_id (by omega) (by omega)).trans (by omega)
    refine Os 2 [(11, pt b11), (33, nt (IntKind.i64.wrap ((decN ((j : Nat) : Int) (rs.take k)) + 1)))] ?_
    refine OI_eq [(11, pt b11), (33, nt ((decN ((j : Nat) : Int) (rs.take k)) + 1))] (by rw [hw37]) ?_
    refine OI_set (m := 1) (kd := false) 3 (.tmp 11) (.tmp 33) 0 (nt ((decN ((j : Nat) : Int) (rs.take k)) + 1)) [nt ((decN ((j : Nat) : Int) (rs.take k)) + 1)] none (by kernel_rfl) (by kernel_rfl) (by kernel_rfl) jb11 (by kernel_rfl) (by kernel_rfl) (by kernel_rfl) (Nat.le_of_ble_eq_true (by kernel_rfl)) (by simp [Value.oneCell']) ?_
    intro w38 hb11_41 hk39 hz40
    replace hb11_41 : Blk w38 b11 [nt ((decN ((j : Nat) : Int) (rs.take k)) + 1)] 3 := hb11_41
    have hsz42 := Keep.size hk39
    replace jr := jr.keep hk39 (by show ¬ (_ = _); omega)
    replace jb1 := jb1.keep hk39 (by show ¬ (_ = _); omega)
    replace jb3 := jb3.keep hk39 (by show ¬ (_ = _); omega)
    replace jb5 := jb5.keep hk39 (by show ¬ (_ = _); omega)
    replace jb7 := jb7.keep hk39 (by show ¬ (_ = _); omega)
    replace jb9 := jb9.keep hk39 (by show ¬ (_ = _); omega)
    replace jbs23 := jbs23.keep hk39 (by show ¬ (_ = _); omega)
    replace jbn24 := jbn24.keep hk39 (by show ¬ (_ = _); omega)
    replace hb26_31 := hb26_31.keep hk39 (by show ¬ (_ = _); omega)
    replace jA := SlT.keep jA hk39 (fun q hq hs => by have hs : q = b11 := hs; have g0 := hAr q hq; have g1 := ltjA q hq; omega)
    replace jA2 := SlT.keep jA2 hk39 (fun q hq hs => by have hs : q = b11 := hs; have g0 := owA2 q hq; have g1 := ltjA2 q hq; omega)
    replace jAk := SlT.keep jAk hk39 (fun q hq hs => by have hs : q = b11 := hs; have g0 := ownk q hq; have g1 := ltjAk q hq; omega)
    replace jhV := VotT.keep jhV hk39 (fun q hq hs => by have hs : q = b11 := hs; have g0 := hVr q hq; have g1 := hFlt q hq; omega)
    replace jhK0 := Keep.fresh jhK0 hk39 (by intro i hi hs; first | exact hs | exact Or.inl hs | exact Or.inr hs | (exfalso; have hs2 : i = b11 := hs; omega))
    replace hfenb := Keep.fresh hfenb hk39 (by intro i hi hs; have hs2 : i = b11 := hs; show _ ∨ _; omega)
    refine OI_end rfl ?_
    refine X_block ?_
    refine X_block ?_
    obtain ⟨hwa, hwb⟩ : waitB ts ((j : Nat) : Int) now x = false ∧ decB ((j : Nat) : Int) x = true := wait_dec hg34 hc35 hc36
    rw [hwa] at hst1
    rw [hwb] at hst2
    replace hst1 := hst1.trans (show _ ++ [] = _ from List.append_nil _)
    replace hst2 := hst2
    replace hst2 := hst2.trans (show _ + 1 = decN ((j : Nat) : Int) (rs.take k) + 1 from rfl)
    exact fun a _ => ⟨hfenb, Ak, capk, jr, jb1, jb3, jb5, jb7, jbs23, jbn24, jA, jA2, jhV, jhK0, by rw [hst1]; exact jb9, by rw [hst2]; exact hb11_41, by rw [hst1]; exact jAk, ownk⟩
   refine V_seq ?_
   refine V_draws (acts []) none_ [[0, 1, 2, 3, 4, 5, 6, 7, 8, 9, 10, 11, 12, 13, 14, 15, 16, 17, 18]] (by kernel_rfl) (by repeat first | exact (by first | exact sure_postM | exact sure_rQ2 | exact sure_no) | refine sure_then ?_ | refine sure_block ?_ | refine sure_join ?_) (by kernel_rfl) ?_
   intro w44 hk43 he45 L hL46
   have hsz47 := Keep.size hk43
   replace jr := jr.keep hk43 (fun f => f)
   replace jb1 := jb1.keep hk43 (fun f => f)
   replace jb3 := jb3.keep hk43 (fun f => f)
   replace jb5 := jb5.keep hk43 (fun f => f)
   replace jb7 := jb7.keep hk43 (fun f => f)
   replace jb9 := jb9.keep hk43 (fun f => f)
   replace jb11 := jb11.keep hk43 (fun f => f)
   replace jbs23 := jbs23.keep hk43 (fun f => f)
   replace jbn24 := jbn24.keep hk43 (fun f => f)
   replace hb26_31 := hb26_31.keep hk43 (fun f => f)
   replace jA := SlT.keep0 jA hk43
   replace jA2 := SlT.keep0 jA2 hk43
   replace jAk := SlT.keep0 jAk hk43
   replace jhV := VotT.keep jhV hk43 (fun _ _ f => f)
   replace jhK0 := Keep.tr jhK0 (Keep.ofNone hk43)
   replace hfenb := Keep.tr hfenb (Keep.ofNone hk43)
   have qjr := jr
   have qjb1 := jb1
   have qjb3 := jb3
   have qjb5 := jb5
   have qjb7 := jb7
   have qjb9 := jb9
   have qjb11 := jb11
   have qjbs23 := jbs23
   have qjbn24 := jbn24
   have qhb26_31 := hb26_31
   have K48 : Keep none_ w44 w44 := Keep.refl _ _
   obtain rfl := List.mem_singleton.1 hL46
   refine Gs [1, 2, 3, 4, 5, 6, 7, 8, 9, 10, 11, 12, 13, 14, 15, 16, 17, 18] [(4, pt b1), (6, pt b5), (7, pt b7), (10, pt b9), (12, nt ((k : Nat) : Int)), (13, pt b26), (35, .pointer (some ⟨b26, 38, none⟩))] ?_
   refine Gc0 3 (.tmp 35) 38 (nt x.backer) (some 36) qhb26_31 rfl ?_
   refine Gs [4, 5, 6, 7, 8, 9, 10, 11, 12, 13, 14, 15, 16, 17, 18] [(4, pt b1), (6, pt b5), (7, pt b7), (10, pt b9), (12, nt ((k : Nat) : Int)), (13, pt b26), (38, .bool (!(decide (x.backer = -1))))] ?_
   by_cases hg49 : x.backer = -1
   ·
    refine GI_eq [(4, pt b1), (6, pt b5), (7, pt b7), (10, pt b9), (12, nt ((k : Nat) : Int)), (13, pt b26), (38, .bool false)] (by first | simp [hg49] | rfl) ?_
    refine Gs [] [(10, pt b9), (12, nt ((k : Nat) : Int)), (34, .bool false)] ?_
    refine GI_end ?_
    refine X_then ?_
    refine V_false rfl ?_
    refine V_skip ?_
    refine X_block ?_
    refine X_block ?_
    obtain ⟨hwa, hwb⟩ : waitB ts ((j : Nat) : Int) now x = false ∧ decB ((j : Nat) : Int) x = false := wait_no hg34 hc35 hc36 (.inl hg49)
    rw [hwa] at hst1
    rw [hwb] at hst2
    replace hst1 := hst1.trans (show _ ++ [] = _ from List.append_nil _)
    replace hst2 := hst2.trans (show _ + 0 = _ from Int.add_zero _)
    exact fun a _ => ⟨hfenb, Ak, capk, jr, jb1, jb3, jb5, jb7, jbs23, jbn24, jA, jA2, jhV, jhK0, by rw [hst1]; exact jb9, by rw [hst2]; exact jb11, by rw [hst1]; exact jAk, ownk⟩
   refine GI_eq [(4, pt b1), (6, pt b5), (7, pt b7), (10, pt b9), (12, nt ((k : Nat) : Int)), (13, pt b26), (38, .bool true)] (by first | simp [hg49] | rfl) ?_
   refine Gc0 3 (.tmp 7) 0 (nt now) (some 39) qjb7 rfl ?_
   refine Gs [6, 7, 8, 9, 10, 11, 12, 13, 14, 15, 16, 17, 18] [(4, pt b1), (6, pt b5), (10, pt b9), (12, nt ((k : Nat) : Int)), (38, .bool true), (39, nt now), (40, .pointer (some ⟨b26, 35, none⟩))] ?_
   refine Gc0 3 (.tmp 40) 35 (nt x.sub) (some 41) qhb26_31 rfl ?_
   refine Gs [8, 9, 10, 11, 12, 13, 14, 15, 16, 17, 18] [(4, pt b1), (6, pt b5), (10, pt b9), (12, nt ((k : Nat) : Int)), (38, .bool true), (42, nt (IntKind.i64.wrap (now - x.sub)))] ?_
   refine Gc0 34 (.tmp 4) 0 (pt r) (some 43) qjb1 rfl ?_
   refine Gs [11, 12, 13, 14, 15, 16, 17, 18] [(6, pt b5), (10, pt b9), (12, nt ((k : Nat) : Int)), (38, .bool true), (42, nt (IntKind.i64.wrap (now - x.sub))), (45, pt r)] ?_
   refine Gc0 29 (.tmp 45) 0 (.slice A ts.length cap) (some 46) qjr rfl ?_
   refine Gc0 3 (.tmp 6) 0 (nt ((j : Nat) : Int)) (some 47) qjb5 rfl ?_
   obtain ⟨b50, o50, L50, T50, rfl, hat50⟩ := SlT.open_ jA (by first | omega | (simp only [List.length_map]; omega) | (simp; done) | (simp; omega))
   have hb50lt := hat50.blk.lt
   have hob51 := hAr b50 ⟨_, rfl, rfl⟩
   have hob52 := ltjA b50 ⟨_, rfl, rfl⟩
   have hne53 : ∀ q, F q → q ≠ b50 := fun q hq hs => (fun q h1 h2 => hHF q (hAo q h2).1 h1) q hq ⟨_, rfl, hs⟩
   have own54 := fun q hq => And.intro (hVr q hq) (hne53 q hq)
   refine GI_pure (some 48) (.indexAddr 29 (.tmp 46) (.tmp 47)) (by kernel_rfl) (by kernel_rfl) (pure_idxN (b := b50) (o := o50) (len := ts.length) (cap := cap) (kd := .i64) (j := j) (E := 27) (sz := 18) (by_ := 144) (by kernel_rfl) (by kernel_rfl) (by kernel_rfl) (by omega)) ?_
   refine Gs [15, 16, 17, 18] [(10, pt b9), (12, nt ((k : Nat) : Int)), (38, .bool true), (42, nt (IntKind.i64.wrap (now - x.sub))), (49, .pointer (some ⟨b50, o50 + j * 18 + 2, none⟩))] ?_
   refine Gc0 3 (.tmp 49) (o50 + j * 18 + 2) (nt ((trkA ts ((j : Nat) : Int)).prepare)) (some 50) hat50.blk (At.cell hat50 (es_at htk) rfl) ?_
   refine Gs [] [(10, pt b9), (12, nt ((k : Nat) : Int)), (34, .bool (decide (IntKind.i64.wrap (now - x.sub) ≥ (trkA ts ((j : Nat) : Int)).prepare)))] ?_
   refine GI_end ?_
   refine X_then ?_
   refine V_if (IntKind.i64.wrap (now - x.sub) ≥ (trkA ts ((j : Nat) : Int)).prepare) (by kernel_rfl) (fun hc55 => ?_) (fun hc55 => ?_)
   ·
    refine V_region ?_
    refine Oc 72 (.tmp 10) 0 (.slice Ak ((waitL ts ((j : Nat) : Int) now 0 (rs.take k)).length) capk) (some 53) jb9 rfl ?_
    refine Os 2 [(10, pt b9), (53, .slice Ak ((waitL ts ((j : Nat) : Int) now 0 (rs.take k)).length) capk), (54, nt ((k : Nat) : Int))] ?_
    refine OI_slit (E := 3) (zv := nt 0) (sz := 1) (by_ := 8) 72 1 #[(0, (Operand.tmp 54))] [nt ((k : Nat) : Int)] [nt ((k : Nat) : Int)] (some 55) (by kernel_rfl) (by kernel_rfl) (by kernel_rfl) (by omega) rfl (by omega) (by intro v hv; simp only [List.mem_cons, List.not_mem_nil, or_false] at hv; rcases hv with rfl <;> rfl) (by kernel_rfl) rfl ?_
    intro b56 w56 e56 hb56 k56 z56
    have hsz57 := Keep.size k56
    replace jr := jr.keep k56 (fun f => f)
    replace jb1 := jb1.keep k56 (fun f => f)
    replace jb3 := jb3.keep k56 (fun f => f)
    replace jb5 := jb5.keep k56 (fun f => f)
    replace jb7 := jb7.keep k56 (fun f => f)
    replace jb9 := jb9.keep k56 (fun f => f)
    replace jb11 := jb11.keep k56 (fun f => f)
    replace jbs23 := jbs23.keep k56 (fun f => f)
    replace jbn24 := jbn24.keep k56 (fun f => f)
    replace hb26_31 := hb26_31.keep k56 (fun f => f)
    replace hat50 := hat50.keep k56 (fun f => f)
    replace jA := SlT.keep0 jA k56
    replace jA2 := SlT.keep0 jA2 k56
    replace jAk := SlT.keep0 jAk k56
    replace jhV := VotT.keep jhV k56 (fun _ _ f => f)
    replace jhK0 := Keep.tr jhK0 (Keep.ofNone k56)
    replace hfenb := Keep.tr hfenb (Keep.ofNone k56)
    have hb56lt := hb56.lt
    refine OI_append (t := 72) (at2 := 72) (E := 3) (E2 := 3) (sz := 1) (by_ := 8) (zv := nt 0) (m := (waitL ts ((j : Nat) : Int) now 0 (rs.take k)).length) (k := 1) (.tmp 53) (.tmp 55) (.slice Ak ((waitL ts ((j : Nat) : Int) now 0 (rs.take k)).length) capk) (.slice (some ⟨b56, 0, none⟩) 1 1) (some 56) (by kernel_rfl) (by kernel_rfl) (by kernel_rfl) (by kernel_rfl) (by kernel_rfl) (by kernel_rfl) (by kernel_rfl) (SlT.slr jAk) (slr_one hb56 (intc_len (k : Int))) (intc_one (k : Int)) (by first | omega | (simp only [List.length_nil]; omega)) (by omega) (by first | omega | (simp only [List.length_nil]; omega)) (by omega) ?_
    intro vv9 w58 hap
    obtain ⟨A58, cap58, rfl, hA58, hk58, own58x⟩ := app_one (f := intc) (xs := (waitL ts ((j : Nat) : Int) now 0 (rs.take k))) (x := (k : Int)) (A := Ak) (cap := capk) hap (fun x _ => intc_len x) (intc_len _)
    have own58 : ∀ q, inA A58 q → M1 ≤ q := fun q hq => by rcases own58x q hq with h | h; exact ownk q h; (show M1 ≤ q; omega)
    have hsz59 := Keep.size hk58
    replace jr := jr.keep hk58 (fun hs => by have h1 := ownk _ hs; have h2 := ltjAk _ hs; omega)
    replace jb1 := jb1.keep hk58 (fun hs => by have h1 := ownk _ hs; have h2 := ltjAk _ hs; omega)
    replace jb3 := jb3.keep hk58 (fun hs => by have h1 := ownk _ hs; have h2 := ltjAk _ hs; omega)
    replace jb5 := jb5.keep hk58 (fun hs => by have h1 := ownk _ hs; have h2 := ltjAk _ hs; omega)
    replace jb7 := jb7.keep hk58 (fun hs => by have h1 := ownk _ hs; have h2 := ltjAk _ hs; omega)
    replace jb9 := jb9.keep hk58 (fun hs => by have h1 := ownk _ hs; have h2 := ltjAk _ hs; omega)
    replace jb11 := jb11.keep hk58 (fun hs => by have h1 := ownk _ hs; have h2 := ltjAk _ hs; omega)
    replace jbs23 := jbs23.keep hk58 (fun hs => by have h1 := ownk _ hs; have h2 := ltjAk _ hs; omega)
    replace jbn24 := jbn24.keep hk58 (fun hs => by have h1 := ownk _ hs; have h2 := ltjAk _ hs; omega)
    replace hb26_31 := hb26_31.keep hk58 (fun hs => by have h1 := ownk _ hs; have h2 := ltjAk _ hs; omega)
    replace hat50 := hat50.keep hk58 (fun hs => by have h1 := ownk _ hs; have h2 := ltjAk _ hs; omega)
    replace jA := SlT.keep jA hk58 (fun q hq hs => by have g0 := hAr q hq; have g1 := ltjA q hq; have h1 := ownk q hs; have h2 := ltjAk q hs; omega)
    replace jA2 := SlT.keep jA2 hk58 (fun q hq hs => by have g0 := owA2 q hq; have g1 := ltjA2 q hq; have h1 := ownk q hs; have h2 := ltjAk q hs; omega)
    replace jhV := VotT.keep jhV hk58 (fun q hq hs => by have g0 := own54 q hq; have g1 := hFlt q hq; have h1 := ownk q hs; have h2 := ltjAk q hs; omega)
    replace jhK0 := Keep.fresh jhK0 hk58 (by intro i hi hs; first | exact hs | (exfalso; have h1 := ownk i hs; have h2 := ltjAk i hs; omega) | (have h1 := ownk i hs; have h2 := ltjAk i hs; show _ ∨ _; omega))
    replace hfenb := Keep.fresh hfenb hk58 (by intro i hi hs; have h1 := ownk i hs; have h2 := ltjAk i hs; show _ ∨ _; omega)
    have lt58 := SlT.lt hA58
    refine OI_set (m := 1) (kd := false) 72 (.tmp 10) (.tmp 56) 0 (.slice A58 (((waitL ts ((j : Nat) : Int) now 0 (rs.take k)) ++ [(k : Int)]).length) cap58) [.slice A58 (((waitL ts ((j : Nat) : Int) now 0 (rs.take k)) ++ [(k : Int)]).length) cap58] none (by kernel_rfl) (by kernel_rfl) (by kernel_rfl) jb9 (by kernel_rfl) (by kernel_rfl) (by kernel_rfl) (Nat.le_of_ble_eq_true (by kernel_rfl)) (by simp [Value.oneCell']) ?_
    intro w60 hb9_63 hk61 hz62
    replace hb9_63 : Blk w60 b9 [.slice A58 (((waitL ts ((j : Nat) : Int) now 0 (rs.take k)) ++ [(k : Int)]).length) cap58] 72 := hb9_63
    have hsz64 := Keep.size hk61
    replace jr := jr.keep hk61 (by show ¬ (_ = _); omega)
    replace jb1 := jb1.keep hk61 (by show ¬ (_ = _); omega)
    replace jb3 := jb3.keep hk61 (by show ¬ (_ = _); omega)
    replace jb5 := jb5.keep hk61 (by show ¬ (_ = _); omega)
    replace jb7 := jb7.keep hk61 (by show ¬ (_ = _); omega)
    replace jb11 := jb11.keep hk61 (by show ¬ (_ = _); omega)
    replace jbs23 := jbs23.keep hk61 (by show ¬ (_ = _); omega)
    replace jbn24 := jbn24.keep hk61 (by show ¬ (_ = _); omega)
    replace hb26_31 := hb26_31.keep hk61 (by show ¬ (_ = _); omega)
    replace hat50 := hat50.keep hk61 (by show ¬ (_ = _); omega)
    replace jA := SlT.keep jA hk61 (fun q hq hs => by have hs : q = b9 := hs; have g0 := hAr q hq; have g1 := ltjA q hq; omega)
    replace jA2 := SlT.keep jA2 hk61 (fun q hq hs => by have hs : q = b9 := hs; have g0 := owA2 q hq; have g1 := ltjA2 q hq; omega)
    replace hA58 := SlT.keep hA58 hk61 (fun q hq hs => by have hs : q = b9 := hs; have g0 := own58 q hq; have g1 := lt58 q hq; omega)
    replace jhV := VotT.keep jhV hk61 (fun q hq hs => by have hs : q = b9 := hs; have g0 := own54 q hq; have g1 := hFlt q hq; omega)
    replace jhK0 := Keep.fresh jhK0 hk61 (by intro i hi hs; first | exact hs | exact Or.inl hs | exact Or.inr hs | (exfalso; have hs2 : i = b9 := hs; omega))
    replace hfenb := Keep.fresh hfenb hk61 (by intro i hi hs; have hs2 : i = b9 := hs; show _ ∨ _; omega)
    refine OI_end rfl ?_
    refine X_block ?_
    refine X_block ?_
    obtain ⟨hwa, hwb⟩ : waitB ts ((j : Nat) : Int) now x = true ∧ decB ((j : Nat) : Int) x = false := wait_yes hg34 hc35 hc36 hg49 hc55
    rw [hwa] at hst1
    rw [hwb] at hst2
    replace hst1 := hst1
    replace hst2 := hst2.trans (show _ + 0 = _ from Int.add_zero _)
    replace hst1 := hst1.trans (show _ ++ [(k : Int)] = _ from rfl)
    exact fun a _ => ⟨hfenb, A58, cap58, jr, jb1, jb3, jb5, jb7, jbs23, jbn24, jA, jA2, jhV, jhK0, by rw [hst1]; exact hb9_63, by rw [hst2]; exact jb11, by rw [hst1]; exact hA58, own58⟩
   refine V_skip ?_
   refine X_block ?_
   refine X_block ?_
   obtain ⟨hwa, hwb⟩ : waitB ts ((j : Nat) : Int) now x = false ∧ decB ((j : Nat) : Int) x = false := wait_no hg34 hc35 hc36 (.inr hc55)
   rw [hwa] at hst1
   rw [hwb] at hst2
   replace hst1 := hst1.trans (show _ ++ [] = _ from List.append_nil _)
   replace hst2 := hst2.trans (show _ + 0 = _ from Int.add_zero _)
   exact fun a _ => ⟨hfenb, Ak, capk, jr, jb1, jb3, jb5, jb7, jbs23, jbn24, jA, jA2, jhV, jhK0, by rw [hst1]; exact jb9, by rw [hst2]; exact jb11, by rw [hst1]; exact jAk, ownk⟩
  refine OI_eq [(4, pt b1), (6, pt b5), (7, pt b7), (10, pt b9), (11, pt b11), (12, nt ((k : Nat) : Int)), (13, pt b26), (22, .bool true)] (by first | simp [hg34] | rfl) ?_
  refine Os 10 [(4, pt b1), (6, pt b5), (7, pt b7), (10, pt b9), (11, pt b11), (12, nt ((k : Nat) : Int)), (13, pt b26), (18, .bool true)] ?_
  refine Oe ?_
  refine V_true rfl ?_
  refine V_skip ?_
  refine X_block ?_
  refine X_block ?_
  obtain ⟨hwa, hwb⟩ : waitB ts ((j : Nat) : Int) now x = false ∧ decB ((j : Nat) : Int) x = false := wait_skip (.inl hg34)
  rw [hwa] at hst1
  rw [hwb] at hst2
  replace hst1 := hst1.trans (show _ ++ [] = _ from List.append_nil _)
  replace hst2 := hst2.trans (show _ + 0 = _ from Int.add_zero _)
  exact fun a _ => ⟨hfenb, Ak, capk, jr, jb1, jb3, jb5, jb7, jbs23, jbn24, jA, jA2, jhV, jhK0, by rw [hst1]; exact jb9, by rw [hst2]; exact jb11, by rw [hst1]; exact jAk, ownk⟩
 ·
  intro D M1 W hD hM ⟨Ak, capk, jr, jb1, jb3, jb5, jb7, jbs23, jbn24, jA, jA2, jhV, jhK0, jb9, jb11, jAk, ownk⟩ hDD
  have hzjhK0 := Keep.size jhK0
  have hrlt := jr.lt
  have hb1lt := jb1.lt
  have hb3lt := jb3.lt
  have hb5lt := jb5.lt
  have hb7lt := jb7.lt
  have hb9lt := jb9.lt
  have hb11lt := jb11.lt
  have hbs23lt := jbs23.lt
  have hbn24lt := jbn24.lt
  have ltjA := SlT.lt jA
  have ltjA2 := SlT.lt jA2
  have ltjAk := SlT.lt jAk
  rw [List.take_length] at jAk jb9 jb11
  refine X_block ?_
  refine X_then ?_
  refine Vr ?_
  refine Oc 72 (.tmp 10) 0 (.slice Ak ((waitL ts ((j : Nat) : Int) now 0 rs).length) capk) (some 57) jb9 rfl ?_
  refine Os 2 [(10, pt b9), (11, pt b11), (57, .slice Ak ((waitL ts ((j : Nat) : Int) now 0 rs).length) capk), (58, .func (.func 152) #[] #[pt b3])] ?_
  have hwl9 : (waitL ts ((j : Nat) : Int) now 0 rs).length ≤ 12 := Nat.le_trans (waitL_len rs 0) hrl
  refine Ok { callee := (Callee.value (Operand.func 151)), args := #[(Operand.tmp 57), (Operand.tmp 58)], argTypes := #[72, 128] } 151 #[.slice Ak ((waitL ts ((j : Nat) : Int) now 0 rs).length) capk, .func (.func 152) #[] #[pt b3]] (some 59) (ssort_spec Ak capk 152 (pt b3) (waitL ts ((j : Nat) : Int) now 0 rs) (fun r => (tallyT s r).a) _ jAk (by omega) (by kernel_rfl) (fun x9 y9 w9 hk9 => waits1_spec b3 F v s x9 y9 w9 (jb3.keep hk9 (fun hs => by have h3 := ownk _ hs; omega)) (VotT.keep jhV hk9 (fun q h1 h2 => by have h3 := hFlt q h1; have h4 := ownk q h2; omega)))) ?_
  rintro _ w65 ⟨rfl, hso67, hk66⟩
  refine ⟨_, rfl, ?_⟩
  have hsz68 := Keep.size hk66
  replace jr := jr.keep hk66 (fun hs => by have h1 := ownk _ hs; have h2 := ltjAk _ hs; omega)
  replace jb3 := jb3.keep hk66 (fun hs => by have h1 := ownk _ hs; have h2 := ltjAk _ hs; omega)
  replace jb9 := jb9.keep hk66 (fun hs => by have h1 := ownk _ hs; have h2 := ltjAk _ hs; omega)
  replace jb11 := jb11.keep hk66 (fun hs => by have h1 := ownk _ hs; have h2 := ltjAk _ hs; omega)
  replace jbs23 := jbs23.keep hk66 (fun hs => by have h1 := ownk _ hs; have h2 := ltjAk _ hs; omega)
  replace jbn24 := jbn24.keep hk66 (fun hs => by have h1 := ownk _ hs; have h2 := ltjAk _ hs; omega)
  replace jA := SlT.keep jA hk66 (fun q hq hs => by have g0 := hAr q hq; have g1 := ltjA q hq; have h1 := ownk q hs; have h2 := ltjAk q hs; omega)
  replace jhV := VotT.keep jhV hk66 (fun q hq hs => by have g0 := hVr q hq; have g1 := hFlt q hq; have h1 := ownk q hs; have h2 := ltjAk q hs; omega)
  replace jhK0 := Keep.fresh jhK0 hk66 (by intro i hi hs; first | exact hs | (exfalso; have h1 := ownk i hs; have h2 := ltjAk i hs; omega) | (have h1 := ownk i hs; have h2 := ltjAk i hs; show _ ∨ _; omega))
  replace hDD := (Keep.block hk66 _ (Array.getElem?_eq_some_iff.1 hDD).1 (fun hs => by have h1 := ownk _ hs; have h2 := ltjAk _ hs; omega)).trans hDD
  have lts67 := SlT.lt hso67
  refine Oe ?_
  refine V_seq ?_
  refine V_draws (acts []) none_ [[0, 1, 2, 3]] (by kernel_rfl) (by repeat first | exact (by first | exact sure_postM | exact sure_rQ2 | exact sure_no) | refine sure_then ?_ | refine sure_block ?_ | refine sure_join ?_) (by kernel_rfl) ?_
  intro w70 hk69 he71 L hL72
  have hsz73 := Keep.size hk69
  replace jr := jr.keep hk69 (fun f => f)
  replace jb9 := jb9.keep hk69 (fun f => f)
  replace jb11 := jb11.keep hk69 (fun f => f)
  replace jbs23 := jbs23.keep hk69 (fun f => f)
  replace jbn24 := jbn24.keep hk69 (fun f => f)
  replace jA := SlT.keep0 jA hk69
  replace hso67 := SlT.keep0 hso67 hk69
  replace jhV := VotT.keep jhV hk69 (fun _ _ f => f)
  replace jhK0 := Keep.tr jhK0 (Keep.ofNone hk69)
  replace hDD := (Keep.block hk69 _ (Array.getElem?_eq_some_iff.1 hDD).1 (fun f => f)).trans hDD
  have qjr := jr
  have qjb9 := jb9
  have qjb11 := jb11
  have qjbs23 := jbs23
  have qjbn24 := jbn24
  have K74 : Keep none_ w70 w70 := Keep.refl _ _
  obtain rfl := List.mem_singleton.1 hL72
  refine Gc0 72 (.tmp 10) 0 (.slice Ak ((waitL ts ((j : Nat) : Int) now 0 rs).length) capk) (some 60) qjb9 rfl ?_
  refine Gc0 3 (.tmp 11) 0 (nt (decN ((j : Nat) : Int) rs)) (some 61) qjb11 rfl ?_
  refine Gs [] [(8, .slice Ak ((waitL ts ((j : Nat) : Int) now 0 rs).length) capk), (9, nt (decN ((j : Nat) : Int) rs))] ?_
  refine GI_end ?_
  refine X_then ?_
  refine V_ret ?_
  exact leave1 (.tuple #[.slice Ak (waitL ts ((j : Nat) : Int) now 0 rs).length capk, .int .i64 (decN ((j : Nat) : Int) rs)]) (.inl rfl) hDD (fun w' hk => ⟨res_tmps rfl, ⟨Ak, capk, rfl, SlT.quiet hso67 hk, (fun q h => by have h1 := ownk q h; omega), Keep.quiet jhK0 hk (by omega)⟩⟩)
end Go.Al


namespace Go.Al
open Go Go.RowKit Go.Proofs
section
variable {xs : List Acc} {cs : List Ci} {s : VS} {ts : List Trk} {rs : List Rfm} {who of after ref now : Int}
theorem subE1 (h : (trkO ts of).isSome = false ∨ who < 0 ∨ who ≥ 10 ∨ after < 0 ∨ after > 1000) : subE xs cs s ts rs who of after = 1 := by
  unfold subE
  rw [if_pos (h.imp (fun h => by cases h9 : trkO ts of with
    | none => rfl
    | some _ => rw [h9] at h; cases h) id)]
theorem closeE4 {s : VS} {ref : Int} : closeE s ref 0 = 4 ↔ (pollAt s ref).isSome = false := by
  unfold closeE
  cases pollAt s ref with
  | none => simp
  | some q =>
    simp only [Option.isSome_some, reduceCtorEq, iff_false]
    split
    · decide
    · decide
theorem closeS0 (s : VS) (ref e : Int) : closeS s ref 0 e = s := by
  unfold closeS
  cases hp : pollAt s ref with
  | none => rfl
  | some q =>
    dsimp only
    have : closeE s ref 0 ≠ 0 := by
      unfold closeE; rw [hp]; dsimp only
      split
      · decide
      · decide
    rw [if_neg this]
theorem subEx (h1 : (trkO ts of).isSome = true) (h2 : ¬ (who < 0 ∨ who ≥ 10 ∨ after < 0 ∨ after > 1000)) : subE xs cs s ts rs who of after = if rs.length ≥ 12 then 3 else if (pollAt s rs.length).isSome then 5 else spendsE xs cs who 10 := by
  unfold subE
  rw [if_neg]
  rintro (h | h)
  · simp_all
  · exact h2 h
theorem sub_no {k : Int} (h : subE xs cs s ts rs who of after = k) (hk : k ≠ 0) : subX xs cs s ts rs who of after = xs ∧ subS xs cs s ts rs who of after = s ∧ ∀ sum now, subR xs cs s ts rs who of after sum now = rs := by
  refine ⟨?_, ?_, fun sum now => ?_⟩
  · unfold subX; rw [h, if_neg hk]
  · unfold subS; rw [h, if_neg hk]
  · unfold subR; rw [h, if_neg hk]
theorem sub_go (h : subE xs cs s ts rs who of after = 0) : subX xs cs s ts rs who of after = resX xs cs who 10 ∧ subS xs cs s ts rs who of after = openS s rs.length of ∧ ∀ sum now, subR xs cs s ts rs who of after sum now = rs ++ [newR of sum after now who] := by
  refine ⟨?_, ?_, fun sum now => ?_⟩
  · unfold subX; rw [if_pos h]
  · unfold subS; rw [if_pos h]
  · unfold subR; rw [if_pos h]
theorem trk_some (h : (trkO ts of).isSome = true) : 0 ≤ of ∧ of < ts.length := by
  unfold trkO at h
  split at h
  · assumption
  · cases h
end

set_option maxRecDepth 10000 in
set_option maxHeartbeats 1000000 in
theorem submit_spec (H : Nat → Prop) (r g : Nat) (ts : List Trk) (rs : List Rfm) (F : Nat → Prop) (v : Nat) (s : VS) (G : Nat → Prop) (l : Nat) (xs : List Acc) (cs : List Ci) (who of : Int) (sum : Nat → Int) (after now : Int) (w : World) (hR : Rfr H w r g ts rs) (hV : VotT F w v s) (hl : Led G w l xs cs) (hHF : ∀ q, H q → ¬ F q) (hHG : ∀ q, H q → ¬ G q) (hFG : ∀ q, F q → ¬ G q) : Calls Tryz.prog 17 #[.pointer (some ⟨r, 0, none⟩), .pointer (some ⟨l, 0, none⟩), .pointer (some ⟨v, 0, none⟩), .int .i64 who, .int .i64 of, .agg (hshc sum).toArray, .int .i64 after, .int .i64 now] w fun e w' => e = .returned (.tuple #[.int .i64 (if subE xs cs s ts rs who of after = 0 then (rs.length : Int) else 0), .int .i64 (subE xs cs s ts rs who of after)]) ∧ (∃ H' F' G', Rfr H' w' r g ts (subR xs cs s ts rs who of after sum now) ∧ VotT F' w' v (subS xs cs s ts rs who of after) ∧ Led G' w' l (subX xs cs s ts rs who of after) cs ∧ (∀ q, H' q → H q ∨ w.heap.size ≤ q) ∧ (∀ q, F' q → F q ∨ w.heap.size ≤ q) ∧ (∀ q, G' q → G q ∨ w.heap.size ≤ q) ∧ (∀ q, H' q → ¬ F' q) ∧ (∀ q, H' q → ¬ G' q) ∧ (∀ q, F' q → ¬ G' q)) ∧ Keep (fun q => q = g ∨ F q ∨ G q) w w' := by
 have hHlt := Rfr.lt hR
 have hrH := Rfr.at_ hR
 have hgH := Rfr.atg hR
 have hrlt := hHlt _ hrH
 have hglt := hHlt _ hgH
 have hin := Rfr.inn hR
 obtain ⟨A, cap, hr, hA, hAo, hrg⟩ := Rfr.parts hR
 have hAlt := SlT.lt hA
 have hAr : ∀ q, inA A q → q ≠ r ∧ q ≠ g ∧ q < w.heap.size := fun q hq => ⟨(hAo q hq).2.1, (hAo q hq).2.2, hAlt q hq⟩
 have hgo : ∀ q, only g q → q ≠ r ∧ q = g := fun q hq => ⟨fun e => hrg (e.symm.trans hq), hq⟩
 have hgl : ∀ q, only g q → q < w.heap.size := fun q hq => by rw [show q = g from hq]; exact hglt
 have hHo : ∀ q, H q → 0 ≤ q := fun q _ => Nat.zero_le q
 have htl := hin.tl
 have hrl := hin.rl
 have hFlt := VotT.lt hV
 have hvlt := hFlt _ (VotT.at_ hV)
 have hVr : ∀ q, F q → q ≠ r := fun q hq e => hHF r hrH (e ▸ hq)
 have hGlt := Led.lt hl
 have hllt := hGlt _ (Led.at_ hl)
 have hlr : ∀ q, G q → q ≠ r := fun q hq e => hHG r hrH (e ▸ hq)
 have hinv := Led.inv hl
 have hHr : ∀ q, H q → H q ∨ w.heap.size ≤ q := fun _ h => .inl h
 have hFr : ∀ q, F q → F q ∨ w.heap.size ≤ q := fun _ h => .inl h
 have hGr : ∀ q, G q → G q ∨ w.heap.size ≤ q := fun _ h => .inl h
 have hK0 : Keep (fun q => q = g ∨ F q ∨ G q) w w := Keep.refl _ _
 have hzhK0 := Keep.size hK0
 refine enterV Tryz.func17 rfl [pt r, pt l, pt v, nt who, nt of, .agg (hshc sum).toArray, nt after, nt now] 95 rfl rfl rfl ?_
 refine V_pick [(0, pt r), (1, pt l), (2, pt v), (3, nt who), (4, nt of), (5, .agg (hshc sum).toArray), (6, nt after), (7, nt now)] rfl ?_
 refine Vr ?_
 refine OI_box 42 (.tmp 5) (.agg (hshc sum).toArray) (hshc sum) (some 13) (by kernel_rfl) (by kernel_rfl) rfl ?_
 intro b1 w1 e1 hb1 k1 z1
 have hsz2 := Keep.size k1
 replace hr := hr.keep k1 (fun f => f)
 replace hA := SlT.keep0 hA k1
 replace hR := Rfr.keep hR k1 (fun _ _ f => f)
 replace hV := VotT.keep hV k1 (fun _ _ f => f)
 replace hl := Led.keep hl k1 (fun _ _ f => f)
 replace hK0 := Keep.tr hK0 (Keep.ofNone k1)
 have hb1lt := hb1.lt
 refine Os 3 [(0, pt r), (1, pt l), (2, pt v), (3, nt who), (4, nt of), (6, nt after), (7, nt now), (13, pt b1)] ?_
 refine Oer ?_
 refine Os 2 [(0, pt r), (1, pt l), (2, pt v), (3, nt who), (4, nt of), (6, nt after), (7, nt now), (13, pt b1), (23, pt r), (24, nt of)] ?_
 refine Ok { callee := (Callee.value (Operand.func 29)), args := #[(Operand.tmp 23), (Operand.tmp 24)], argTypes := #[34, 3] } 29 #[pt r, nt of] (some 25) (rtrack_spec H r g ts rs of _ hR) ?_
 rintro _ w3 ⟨rfl, hk4⟩
 refine ⟨_, rfl, ?_⟩
 have hsz5 := Keep.size hk4
 replace hr := hr.keep hk4 (fun f => f)
 replace hb1 := hb1.keep hk4 (fun f => f)
 replace hA := SlT.keep0 hA hk4
 replace hR := Rfr.keep hR hk4 (fun _ _ f => f)
 replace hV := VotT.keep hV hk4 (fun _ _ f => f)
 replace hl := Led.keep hl hk4 (fun _ _ f => f)
 replace hK0 := Keep.tr hK0 (Keep.ofNone hk4)
 refine Os 6 [(0, pt r), (1, pt l), (2, pt v), (3, nt who), (4, nt of), (6, nt after), (7, nt now), (13, pt b1), (26, .agg (Trk.cells (trkA ts of)).toArray), (27, .bool ((trkO ts of).isSome))] ?_
 refine OI_alloc 27 (.agg (Trk.cells Trk.zero).toArray) (Trk.cells Trk.zero) (some 18) (by kernel_rfl) (by kernel_rfl) (by kernel_rfl) ?_
 intro b6 w6 e6 hb6 k6 z6
 have hsz7 := Keep.size k6
 replace hr := hr.keep k6 (fun f => f)
 replace hb1 := hb1.keep k6 (fun f => f)
 replace hA := SlT.keep0 hA k6
 replace hR := Rfr.keep hR k6 (fun _ _ f => f)
 replace hV := VotT.keep hV k6 (fun _ _ f => f)
 replace hl := Led.keep hl k6 (fun _ _ f => f)
 replace hK0 := Keep.tr hK0 (Keep.ofNone k6)
 have hb6lt := hb6.lt
 refine OI_set (m := 18) (kd := true) 27 (.tmp 18) (.tmp 26) 0 (.agg (Trk.cells (trkA ts of)).toArray) (Trk.cells (trkA ts of)) none (by kernel_rfl) (by kernel_rfl) (by kernel_rfl) hb6 (by kernel_rfl) rfl (Trk.len _) (Nat.le_of_ble_eq_true (by kernel_rfl)) (Trk.one _) ?_
 intro w8 hb6_11 hk9 hz10
 replace hb6_11 : Blk w8 b6 (Trk.cells (trkA ts of)) 27 := (Blk.eqL (Trk.over _ _) hb6_11)
 have hsz12 := Keep.size hk9
 replace hr := hr.keep hk9 (by show ¬ (_ = _); omega)
 replace hb1 := hb1.keep hk9 (by show ¬ (_ = _); omega)
 replace hA := SlT.keep hA hk9 (fun q hq hs => by have hs : q = b6 := hs; have g0 := hAr q hq; have g1 := hAlt q hq; omega)
 replace hR := Rfr.keep hR hk9 (fun q hq hs => by have hs : q = b6 := hs; have g0 := hHo q hq; have g1 := hHlt q hq; omega)
 replace hV := VotT.keep hV hk9 (fun q hq hs => by have hs : q = b6 := hs; have g0 := hVr q hq; have g1 := hFlt q hq; omega)
 replace hl := Led.keep hl hk9 (fun q hq hs => by have hs : q = b6 := hs; have g0 := hlr q hq; have g1 := hGlt q hq; omega)
 replace hK0 := Keep.fresh hK0 hk9 (by intro i hi hs; first | exact hs | exact Or.inl hs | exact Or.inr hs | (exfalso; have hs2 : i = b6 := hs; omega))
 refine Os 9 [(0, pt r), (1, pt l), (2, pt v), (3, nt who), (4, nt of), (6, nt after), (7, nt now), (13, pt b1), (19, .bool ((trkO ts of).isSome))] ?_
 refine Oe ?_
 refine V_seq ?_
 refine V_block ?_
 refine Vr ?_
 refine Os 3 [(0, pt r), (1, pt l), (2, pt v), (3, nt who), (4, nt of), (6, nt after), (7, nt now), (13, pt b1), (31, .bool (!((trkO ts of).isSome)))] ?_
 cases hg13 : (!((trkO ts of).isSome))
 ·
  refine OI_eq [(0, pt r), (1, pt l), (2, pt v), (3, nt who), (4, nt of), (6, nt after), (7, nt now), (13, pt b1), (31, .bool false)] (by first | rfl | rw [hg13]) ?_
  refine Os 15 [(0, pt r), (1, pt l), (2, pt v), (3, nt who), (4, nt of), (6, nt after), (7, nt now), (13, pt b1), (43, .bool (decide (who < 0)))] ?_
  by_cases hg14 : who < 0
  ·
   refine OI_eq [(0, pt r), (1, pt l), (2, pt v), (3, nt who), (4, nt of), (6, nt after), (7, nt now), (13, pt b1), (43, .bool true)] (by first | simp [hg14] | rfl) ?_
   refine Os 27 [(0, pt r), (1, pt l), (2, pt v), (3, nt who), (4, nt of), (6, nt after), (7, nt now), (13, pt b1), (28, .bool true)] ?_
   refine Oe ?_
   refine V_true rfl ?_
   refine Vr ?_
   refine Os 2 [(16, nt 0), (17, nt 1)] ?_
   refine Oe ?_
   refine V_ret ?_
   refine X_ret_block ?_
   refine X_ret_then ?_
   have hE15 : subE xs cs s ts rs who of after = 1 := subE1 (.inr <| .inl hg14)
   obtain ⟨h115, h215, h315⟩ := sub_no hE15 (by decide)
   exact X_return (.tuple #[nt 0, nt 1]) rfl ⟨by rw [hE15]; rfl, ⟨H, F, G, (by rw [h315]; exact hR), (by rw [h215]; exact hV), (by rw [h115]; exact hl), hHr, hFr, hGr, hHF, hHG, hFG⟩, hK0⟩
  refine OI_eq [(0, pt r), (1, pt l), (2, pt v), (3, nt who), (4, nt of), (6, nt after), (7, nt now), (13, pt b1), (43, .bool false)] (by first | simp [hg14] | rfl) ?_
  refine Os 19 [(0, pt r), (1, pt l), (2, pt v), (3, nt who), (4, nt of), (6, nt after), (7, nt now), (13, pt b1), (47, .bool (decide (who ≥ 10)))] ?_
  by_cases hg16 : who ≥ 10
  ·
   refine OI_eq [(0, pt r), (1, pt l), (2, pt v), (3, nt who), (4, nt of), (6, nt after), (7, nt now), (13, pt b1), (47, .bool true)] (by first | simp [hg16] | rfl) ?_
   refine Os 27 [(0, pt r), (1, pt l), (2, pt v), (3, nt who), (4, nt of), (6, nt after), (7, nt now), (13, pt b1), (28, .bool true)] ?_
   refine Oe ?_
   refine V_true rfl ?_
   refine Vr ?_
   refine Os 2 [(16, nt 0), (17, nt 1)] ?_
   refine Oe ?_
   refine V_ret ?_
   refine X_ret_block ?_
   refine X_ret_then ?_
   have hE17 : subE xs cs s ts rs who of after = 1 := subE1 (.inr <| .inr <| .inl hg16)
   obtain ⟨h117, h217, h317⟩ := sub_no hE17 (by decide)
   exact X_return (.tuple #[nt 0, nt 1]) rfl ⟨by rw [hE17]; rfl, ⟨H, F, G, (by rw [h317]; exact hR), (by rw [h217]; exact hV), (by rw [h117]; exact hl), hHr, hFr, hGr, hHF, hHG, hFG⟩, hK0⟩
  refine OI_eq [(0, pt r), (1, pt l), (2, pt v), (3, nt who), (4, nt of), (6, nt after), (7, nt now), (13, pt b1), (47, .bool false)] (by first | simp [hg16] | rfl) ?_
  refine Os 23 [(0, pt r), (1, pt l), (2, pt v), (3, nt who), (4, nt of), (6, nt after), (7, nt now), (13, pt b1), (51, .bool (decide (after < 0)))] ?_
  by_cases hg18 : after < 0
  ·
   refine OI_eq [(0, pt r), (1, pt l), (2, pt v), (3, nt who), (4, nt of), (6, nt after), (7, nt now), (13, pt b1), (51, .bool true)] (by first | simp [hg18] | rfl) ?_
   refine Os 27 [(0, pt r), (1, pt l), (2, pt v), (3, nt who), (4, nt of), (6, nt after), (7, nt now), (13, pt b1), (28, .bool true)] ?_
   refine Oe ?_
   refine V_true rfl ?_
   refine Vr ?_
   refine Os 2 [(16, nt 0), (17, nt 1)] ?_
   refine Oe ?_
   refine V_ret ?_
   refine X_ret_block ?_
   refine X_ret_then ?_
   have hE19 : subE xs cs s ts rs who of after = 1 := subE1 (.inr <| .inr <| .inr <| .inl hg18)
   obtain ⟨h119, h219, h319⟩ := sub_no hE19 (by decide)
   exact X_return (.tuple #[nt 0, nt 1]) rfl ⟨by rw [hE19]; rfl, ⟨H, F, G, (by rw [h319]; exact hR), (by rw [h219]; exact hV), (by rw [h119]; exact hl), hHr, hFr, hGr, hHF, hHG, hFG⟩, hK0⟩
  refine OI_eq [(0, pt r), (1, pt l), (2, pt v), (3, nt who), (4, nt of), (6, nt after), (7, nt now), (13, pt b1), (51, .bool false)] (by first | simp [hg18] | rfl) ?_
  refine Os 27 [(0, pt r), (1, pt l), (2, pt v), (3, nt who), (4, nt of), (6, nt after), (7, nt now), (13, pt b1), (28, .bool (decide (after > 1000)))] ?_
  refine Oe ?_
  refine V_if (after > 1000) (by kernel_rfl) (fun hc20 => ?_) (fun hc20 => ?_)
  ·
   refine Vr ?_
   refine Os 2 [(16, nt 0), (17, nt 1)] ?_
   refine Oe ?_
   refine V_ret ?_
   refine X_ret_block ?_
   refine X_ret_then ?_
   have hE21 : subE xs cs s ts rs who of after = 1 := subE1 (.inr <| .inr <| .inr <| .inr <| hc20)
   obtain ⟨h121, h221, h321⟩ := sub_no hE21 (by decide)
   exact X_return (.tuple #[nt 0, nt 1]) rfl ⟨by rw [hE21]; rfl, ⟨H, F, G, (by rw [h321]; exact hR), (by rw [h221]; exact hV), (by rw [h121]; exact hl), hHr, hFr, hGr, hHF, hHG, hFG⟩, hK0⟩
  refine Vr ?_
  refine Os 3 [(0, pt r), (1, pt l), (2, pt v), (3, nt who), (4, nt of), (6, nt after), (7, nt now), (13, pt b1), (58, .pointer (some ⟨r, 1, none⟩))] ?_
  refine Oc 95 (.tmp 58) 1 (pt g) (some 59) hr rfl ?_
  refine Ok { callee := (Callee.value (Operand.func 41)), args := #[(Operand.tmp 59)], argTypes := #[95] } 41 #[pt g] (some 60) (qlen_spec H r g ts rs _ hR) ?_
  rintro _ w8 ⟨rfl, rfl⟩
  refine ⟨_, rfl, ?_⟩
  refine Os 7 [(0, pt r), (1, pt l), (2, pt v), (3, nt who), (4, nt of), (6, nt after), (7, nt now), (13, pt b1), (55, .bool (decide (((rs.length : Nat) : Int) ≥ 12)))] ?_
  refine Oe ?_
  refine V_if (((rs.length : Nat) : Int) ≥ 12) (by kernel_rfl) (fun hc25 => ?_) (fun hc25 => ?_)
  ·
   refine Vr ?_
   refine Os 2 [(16, nt 0), (17, nt 3)] ?_
   refine Oe ?_
   refine V_ret ?_
   refine X_ret_block ?_
   refine X_ret_then ?_
   have hE26 : subE xs cs s ts rs who of after = 3 := by
     rw [subEx (who := who) (of := of) (after := after) (ts := ts) (by simpa using hg13) (by omega)]
     rw [if_pos (by omega)]
   obtain ⟨h126, h226, h326⟩ := sub_no hE26 (by decide)
   exact X_return (.tuple #[nt 0, nt 3]) rfl ⟨by rw [hE26]; rfl, ⟨H, F, G, (by rw [h326]; exact hR), (by rw [h226]; exact hV), (by rw [h126]; exact hl), hHr, hFr, hGr, hHF, hHG, hFG⟩, hK0⟩
  refine V_skip ?_
  refine X_block ?_
  refine X_then ?_
  refine Vr ?_
  refine Os 3 [(0, pt r), (1, pt l), (2, pt v), (3, nt who), (4, nt of), (6, nt after), (7, nt now), (13, pt b1), (64, .pointer (some ⟨r, 1, none⟩))] ?_
  refine Oc 95 (.tmp 64) 1 (pt g) (some 65) hr rfl ?_
  refine Ok { callee := (Callee.value (Operand.func 41)), args := #[(Operand.tmp 65)], argTypes := #[95] } 41 #[pt g] (some 66) (qlen_spec H r g ts rs _ hR) ?_
  rintro _ w8 ⟨rfl, rfl⟩
  refine ⟨_, rfl, ?_⟩
  refine Os 6 [(0, pt r), (1, pt l), (2, pt v), (3, nt who), (4, nt of), (6, nt after), (7, nt now), (13, pt b1), (20, nt ((rs.length : Nat) : Int))] ?_
  refine Oe ?_
  refine V_seq ?_
  refine Vr ?_
  refine Os 3 [(0, pt r), (1, pt l), (2, pt v), (3, nt who), (4, nt of), (6, nt after), (7, nt now), (13, pt b1), (20, nt ((rs.length : Nat) : Int)), (67, pt v), (68, nt ((rs.length : Nat) : Int)), (69, nt now)] ?_
  refine Ok { callee := (Callee.value (Operand.func 42)), args := #[(Operand.tmp 67), (Operand.tmp 68), (Operand.const (Value.int IntKind.i64 0)), (Operand.tmp 69)], argTypes := #[33, 3, 3, 3] } 42 #[pt v, nt ((rs.length : Nat) : Int), nt 0, nt now] (some 70) (close_specT F v s ((rs.length : Nat) : Int) 0 now _ hV) ?_
  rintro _ w32 ⟨rfl, ⟨F34, ho35, hfr36⟩, hk33⟩
  refine ⟨_, rfl, ?_⟩
  have hsz37 := Keep.size hk33
  replace hr := hr.keep hk33 (fun hs => by have h1 := hVr _ hs; have h2 := hFlt _ hs; omega)
  replace hb1 := hb1.keep hk33 (fun hs => by have h1 := hVr _ hs; have h2 := hFlt _ hs; omega)
  replace hb6_11 := hb6_11.keep hk33 (fun hs => by have h1 := hVr _ hs; have h2 := hFlt _ hs; omega)
  replace hA := SlT.keep hA hk33 (fun q hq hs => (fun q h1 h2 => hHF q (hAo q h2).1 h1) q hs hq)
  replace hR := Rfr.keep hR hk33 (fun q hq hs => (fun q h1 h2 => hHF q h2 h1) q hs hq)
  replace hl := Led.keep hl hk33 (fun q hq hs => hFG q hs hq)
  replace hK0 := Keep.fresh hK0 hk33 (fun i hi hs => by rcases hFr i hs with h | h; exact .inr <| .inl h; (exfalso; omega))
  have own39 : ∀ q, F34 q → q ≠ r ∧ q ≠ r ∧ q ≠ b1 ∧ q ≠ b6 := fun q hq => by rcases hfr36 q hq with h | h; (have h1 := hVr q h; have h2 := hFlt q h; omega); omega
  have lt38 := VotT.lt ho35
  have rel40 : ∀ q, F34 q → F q ∨ w.heap.size ≤ q := fun q hq => by rcases hfr36 q hq with h | h; exact hFr q h; exact .inr (by omega)
  have dis41 : ∀ q, F34 q → ¬ inA A q := fun q h1 h2 => by rcases hfr36 q h1 with h | h; exact (fun q h1 h2 => hHF q (hAo q h2).1 h1) q h h2; (have h4 := hAlt q h2; omega)
  have dis42 : ∀ q, F34 q → ¬ H q := fun q h1 h2 => by rcases hfr36 q h1 with h | h; exact (fun q h1 h2 => hHF q h2 h1) q h h2; (have h4 := hHlt q h2; omega)
  have dis43 : ∀ q, F34 q → ¬ G q := fun q h1 h2 => by rcases hfr36 q h1 with h | h; exact hFG q h h2; (have h4 := hGlt q h2; omega)
  rw [closeS0] at ho35
  refine Os 5 [(0, pt r), (1, pt l), (2, pt v), (3, nt who), (4, nt of), (6, nt after), (7, nt now), (13, pt b1), (20, nt ((rs.length : Nat) : Int)), (71, .bool (!(decide (closeE s ((rs.length : Nat) : Int) 0 = 4))))] ?_
  refine Oe ?_
  refine V_not (closeE s ((rs.length : Nat) : Int) 0 = 4) (by kernel_rfl) (fun hc44 => ?_) (fun hc44 => ?_)
  ·
   refine Vr ?_
   refine Os 2 [(16, nt 0), (17, nt 5)] ?_
   refine Oe ?_
   refine V_ret ?_
   refine X_ret_then ?_
   have hE45 : subE xs cs s ts rs who of after = 5 := by
     rw [subEx (who := who) (of := of) (after := after) (ts := ts) (by simpa using hg13) (by omega)]
     rw [if_neg (by omega)]
     exact if_pos (by cases h9 : (pollAt s rs.length).isSome; exact absurd (closeE4.2 h9) hc44; rfl)
   obtain ⟨h145, h245, h345⟩ := sub_no hE45 (by decide)
   exact X_return (.tuple #[nt 0, nt 5]) rfl ⟨by rw [hE45]; rfl, ⟨H, F34, G, (by rw [h345]; exact hR), (by rw [h245]; exact ho35), (by rw [h145]; exact hl), hHr, rel40, hGr, (fun q h1 h2 => dis42 q h2 h1), hHG, dis43⟩, hK0⟩
  refine V_skip ?_
  refine X_then ?_
  refine V_seq ?_
  refine Vr ?_
  refine Os 2 [(0, pt r), (2, pt v), (3, nt who), (4, nt of), (6, nt after), (7, nt now), (13, pt b1), (20, nt ((rs.length : Nat) : Int)), (72, pt l), (73, nt who)] ?_
  refine Ok { callee := (Callee.value (Operand.func 43)), args := #[(Operand.tmp 72), (Operand.tmp 73), (Operand.const (Value.int IntKind.i64 10))], argTypes := #[32, 3, 3] } 43 #[pt l, nt who, nt 10] (some 74) (reserve_spec G l xs cs who 10 _ hl) ?_
  rintro _ w48 ⟨rfl, ⟨F50, ho51, hfr52⟩, hk49⟩
  refine ⟨_, rfl, ?_⟩
  have hsz53 := Keep.size hk49
  replace hr := hr.keep hk49 (fun hs => by have h1 := hlr _ hs; have h2 := hGlt _ hs; omega)
  replace hb1 := hb1.keep hk49 (fun hs => by have h1 := hlr _ hs; have h2 := hGlt _ hs; omega)
  replace hb6_11 := hb6_11.keep hk49 (fun hs => by have h1 := hlr _ hs; have h2 := hGlt _ hs; omega)
  replace hA := SlT.keep hA hk49 (fun q hq hs => (fun q h1 h2 => hHG q (hAo q h2).1 h1) q hs hq)
  replace hR := Rfr.keep hR hk49 (fun q hq hs => (fun q h1 h2 => hHG q h2 h1) q hs hq)
  replace hK0 := Keep.fresh hK0 hk49 (fun i hi hs => by rcases hGr i hs with h | h; exact .inr <| .inr <| h; (exfalso; omega))
  replace ho35 := VotT.keep ho35 hk49 (fun q hq hs => (fun q h1 h2 => dis43 q h2 h1) q hs hq)
  have own55 : ∀ q, F50 q → q ≠ r ∧ q ≠ r ∧ q ≠ b1 ∧ q ≠ b6 := fun q hq => by rcases hfr52 q hq with h | h; (have h1 := hlr q h; have h2 := hGlt q h; omega); omega
  have lt54 := Led.lt ho51
  have rel56 : ∀ q, F50 q → G q ∨ w.heap.size ≤ q := fun q hq => by rcases hfr52 q hq with h | h; exact hGr q h; exact .inr (by omega)
  have dis57 : ∀ q, F50 q → ¬ inA A q := fun q h1 h2 => by rcases hfr52 q h1 with h | h; exact (fun q h1 h2 => hHG q (hAo q h2).1 h1) q h h2; (have h4 := hAlt q h2; omega)
  have dis58 : ∀ q, F50 q → ¬ H q := fun q h1 h2 => by rcases hfr52 q h1 with h | h; exact (fun q h1 h2 => hHG q h2 h1) q h h2; (have h4 := hHlt q h2; omega)
  have dis59 : ∀ q, F50 q → ¬ F34 q := fun q h1 h2 => by rcases hfr52 q h1 with h | h; exact (fun q h1 h2 => dis43 q h2 h1) q h h2; (have h4 := lt38 q h2; omega)
  refine Os 4 [(0, pt r), (2, pt v), (3, nt who), (4, nt of), (6, nt after), (7, nt now), (13, pt b1), (20, nt ((rs.length : Nat) : Int)), (21, nt (spendsE xs cs who 10))] ?_
  refine Oer ?_
  refine Os 2 [(0, pt r), (2, pt v), (3, nt who), (4, nt of), (6, nt after), (7, nt now), (13, pt b1), (20, nt ((rs.length : Nat) : Int)), (21, nt (spendsE xs cs who 10)), (76, .bool (!(decide (spendsE xs cs who 10 = 0))))] ?_
  refine Oe ?_
  refine V_not (spendsE xs cs who 10 = 0) (by kernel_rfl) (fun hc60 => ?_) (fun hc60 => ?_)
  ·
   refine Vr ?_
   refine Os 3 [(16, nt 0), (17, nt (spendsE xs cs who 10))] ?_
   refine Oe ?_
   refine V_ret ?_
   refine X_ret_then ?_
   have hE61 : subE xs cs s ts rs who of after = (spendsE xs cs who 10) := by
     rw [subEx (who := who) (of := of) (after := after) (ts := ts) (by simpa using hg13) (by omega)]
     rw [if_neg (by omega)]
     rw [if_neg (by rw [closeE4.1 hc44]; decide)]
   obtain ⟨h161, h261, h361⟩ := sub_no hE61 (hc60)
   exact X_return (.tuple #[nt 0, nt (spendsE xs cs who 10)]) rfl ⟨by rw [hE61]; rw [if_neg (hc60)], ⟨H, F34, F50, (by rw [h361]; exact hR), (by rw [h261]; exact ho35), (by rw [show subX xs cs s ts rs who of after = resX xs cs who 10 from h161.trans (by unfold resX; rw [if_neg (hc60)])]; exact ho51), hHr, rel40, rel56, (fun q h1 h2 => dis42 q h2 h1), (fun q h1 h2 => dis58 q h2 h1), (fun q h1 h2 => dis59 q h2 h1)⟩, hK0⟩
  refine V_skip ?_
  refine X_then ?_
  refine Vr ?_
  refine Os 3 [(0, pt r), (3, nt who), (4, nt of), (6, nt after), (7, nt now), (13, pt b1), (20, nt ((rs.length : Nat) : Int)), (78, pt v), (79, nt ((rs.length : Nat) : Int)), (80, nt of)] ?_
  refine Ok { callee := (Callee.value (Operand.func 44)), args := #[(Operand.tmp 78), (Operand.tmp 79), (Operand.tmp 80)], argTypes := #[33, 3, 3] } 44 #[pt v, nt ((rs.length : Nat) : Int), nt of] (some 81) (open_specT F34 v s ((rs.length : Nat) : Int) of _ ho35) ?_
  rintro _ w64 ⟨rfl, ⟨F66, ho67, hfr68⟩, hk65⟩
  refine ⟨_, rfl, ?_⟩
  have hsz69 := Keep.size hk65
  replace hr := hr.keep hk65 (fun hs => by have h1 := own39 _ hs; have h2 := lt38 _ hs; omega)
  replace hb1 := hb1.keep hk65 (fun hs => by have h1 := own39 _ hs; have h2 := lt38 _ hs; omega)
  replace hb6_11 := hb6_11.keep hk65 (fun hs => by have h1 := own39 _ hs; have h2 := lt38 _ hs; omega)
  replace hA := SlT.keep hA hk65 (fun q hq hs => dis41 q hs hq)
  replace hR := Rfr.keep hR hk65 (fun q hq hs => dis42 q hs hq)
  replace hK0 := Keep.fresh hK0 hk65 (fun i hi hs => by rcases rel40 i hs with h | h; exact .inr <| .inl h; (exfalso; omega))
  replace ho51 := Led.keep ho51 hk65 (fun q hq hs => (fun q h1 h2 => dis59 q h2 h1) q hs hq)
  have own71 : ∀ q, F66 q → q ≠ r ∧ q ≠ r ∧ q ≠ b1 ∧ q ≠ b6 := fun q hq => by rcases hfr68 q hq with h | h; (have h1 := own39 q h; have h2 := lt38 q h; omega); omega
  have lt70 := VotT.lt ho67
  have rel72 : ∀ q, F66 q → F q ∨ w.heap.size ≤ q := fun q hq => by rcases hfr68 q hq with h | h; exact rel40 q h; exact .inr (by omega)
  have dis73 : ∀ q, F66 q → ¬ inA A q := fun q h1 h2 => by rcases hfr68 q h1 with h | h; exact dis41 q h h2; (have h4 := hAlt q h2; omega)
  have dis74 : ∀ q, F66 q → ¬ H q := fun q h1 h2 => by rcases hfr68 q h1 with h | h; exact dis42 q h h2; (have h4 := hHlt q h2; omega)
  have dis75 : ∀ q, F66 q → ¬ F50 q := fun q h1 h2 => by rcases hfr68 q h1 with h | h; exact (fun q h1 h2 => dis59 q h2 h1) q h h2; (have h4 := lt54 q h2; omega)
  refine Oe ?_
  refine V_seq ?_
  refine V_draws (acts [11]) (fun q => q = g) [[0, 1, 2, 3, 4, 5, 6, 7, 8, 9, 10, 11]] (by kernel_rfl) (by repeat first | exact sure_body (by rintro _ _ ⟨h, _⟩; exact ⟨_, h⟩) | refine sure_then ?_ | refine sure_block ?_ | refine sure_join ?_) (by kernel_rfl) ?_
  intro w77 hk76 he78 L hL79
  have hsz80 := Keep.size hk76
  replace hr := hr.keep hk76 (fun f => f)
  replace hb1 := hb1.keep hk76 (fun f => f)
  replace hb6_11 := hb6_11.keep hk76 (fun f => f)
  replace hA := SlT.keep0 hA hk76
  replace hR := Rfr.keep hR hk76 (fun _ _ f => f)
  replace hK0 := Keep.tr hK0 (Keep.ofNone hk76)
  replace ho51 := Led.keep ho51 hk76 (fun _ _ f => f)
  replace ho67 := VotT.keep ho67 hk76 (fun _ _ f => f)
  have qhr := hr
  have qhb1 := hb1
  have qhb6_11 := hb6_11
  have K81 : Keep (fun q => q = g) w77 w77 := Keep.refl _ _
  obtain rfl := List.mem_singleton.1 hL79
  refine Gs [3, 4, 5, 6, 7, 8, 9, 10, 11] [(3, nt who), (4, nt of), (6, nt after), (7, nt now), (13, pt b1), (20, nt ((rs.length : Nat) : Int)), (84, .pointer (some ⟨r, 1, none⟩))] ?_
  refine Gc 95 (.tmp 84) 1 (pt g) (some 85) qhr (by show ¬ (r = g); omega) rfl ?_
  refine Gs [6, 7, 8, 9, 10, 11] [(3, nt who), (6, nt after), (7, nt now), (13, pt b1), (20, nt ((rs.length : Nat) : Int)), (85, pt g), (86, nt ((rs.length : Nat) : Int)), (87, nt of)] ?_
  refine Ga 42 (.tmp 13) 0 (hshc sum) (some 88) 32 qhb1 (by show ¬ (b1 = g); omega) (take_all (hshc_len _)) (hshc_len _) ?_
  refine Gs [11] [(20, nt ((rs.length : Nat) : Int)), (85, pt g), (86, nt ((rs.length : Nat) : Int)), (92, .agg (Rfm.cells (newR of sum after now who)).toArray)] ?_
  refine GI_final 11 (by kernel_rfl) (by kernel_rfl) ?_
  refine Ok { callee := (Callee.value (Operand.func 45)), args := #[(Operand.tmp 85), (Operand.const (Value.int IntKind.i64 0)), (Operand.tmp 86), (Operand.tmp 92)], argTypes := #[95, 3, 3, 57] } 45 #[pt g, nt 0, nt ((rs.length : Nat) : Int), .agg (Rfm.cells (newR of sum after now who)).toArray] (some 93) (rnew_spec H r g ts rs (newR of sum after now who) _ hR (by omega) (show 0 ≤ of ∧ of < (ts.length : Int) from trk_some (by simpa using hg13))) ?_
  rintro _ w84 ⟨rfl, ⟨H86, hR87, hfr88⟩, hk85⟩
  refine ⟨_, rfl, ?_⟩
  have hsz89 := Keep.size hk85
  replace hr := hr.keep hk85 (fun hs => by have h1 := hgo _ hs; have h2 := hgl _ hs; omega)
  replace hb1 := hb1.keep hk85 (fun hs => by have h1 := hgo _ hs; have h2 := hgl _ hs; omega)
  replace hb6_11 := hb6_11.keep hk85 (fun hs => by have h1 := hgo _ hs; have h2 := hgl _ hs; omega)
  replace hA := SlT.keep hA hk85 (fun q hq hs => (fun q h1 h2 => (hAo q h2).2.2 h1) q hs hq)
  replace hK0 := Keep.fresh hK0 hk85 (by intro i hi hs; first | exact hs | (exfalso; have h1 := hgo i hs; have h2 := hgl i hs; omega) | (have h1 := hgo i hs; have h2 := hgl i hs; show _ ∨ _; omega))
  replace ho51 := Led.keep ho51 hk85 (fun q hq hs => (fun q h1 h2 => (fun q h1 h2 => dis58 q h2 h1) q (by rw [show q = g from h1]; exact hgH) h2) q hs hq)
  replace ho67 := VotT.keep ho67 hk85 (fun q hq hs => (fun q h1 h2 => (fun q h1 h2 => dis74 q h2 h1) q (by rw [show q = g from h1]; exact hgH) h2) q hs hq)
  have own91 : ∀ q, H86 q → 0 ≤ q ∧ q ≠ b1 ∧ q ≠ b6 := fun q hq => by rcases hfr88 q hq with h | h; (have h1 := hHo q h; have h2 := hHlt q h; omega); omega
  have lt90 := Rfr.lt hR87
  have rel92 : ∀ q, H86 q → H q ∨ w.heap.size ≤ q := fun q hq => by rcases hfr88 q hq with h | h; exact hHr q h; exact .inr (by omega)
  have dis93 : ∀ q, H86 q → ¬ F50 q := fun q h1 h2 => by rcases hfr88 q h1 with h | h; exact (fun q h1 h2 => dis58 q h2 h1) q h h2; (have h4 := lt54 q h2; omega)
  have dis94 : ∀ q, H86 q → ¬ F66 q := fun q h1 h2 => by rcases hfr88 q h1 with h | h; exact (fun q h1 h2 => dis74 q h2 h1) q h h2; (have h4 := lt70 q h2; omega)
  refine Oer ?_
  refine Os 3 [(16, nt ((rs.length : Nat) : Int)), (17, nt 0)] ?_
  refine Oe ?_
  refine V_ret ?_
  have hE95 : subE xs cs s ts rs who of after = 0 := by
    rw [subEx (who := who) (of := of) (after := after) (ts := ts) (by simpa using hg13) (by omega)]
    rw [if_neg (by omega)]
    rw [if_neg (by rw [closeE4.1 hc44]; decide)]
    exact hc60
  obtain ⟨h195, h295, h395⟩ := sub_go hE95
  exact X_return (.tuple #[nt ((rs.length : Nat) : Int), nt 0]) rfl ⟨by rw [hE95]; rfl, ⟨H86, F66, F50, (by rw [h395]; exact hR87), (by rw [h295]; exact ho67), (by rw [h195]; exact ho51), rel92, rel72, rel56, dis94, dis93, dis75⟩, hK0⟩
 refine OI_eq [(0, pt r), (1, pt l), (2, pt v), (3, nt who), (4, nt of), (6, nt after), (7, nt now), (13, pt b1), (31, .bool true)] (by first | rfl | rw [hg13]) ?_
 refine Os 27 [(0, pt r), (1, pt l), (2, pt v), (3, nt who), (4, nt of), (6, nt after), (7, nt now), (13, pt b1), (28, .bool true)] ?_
 refine Oe ?_
 refine V_true rfl ?_
 refine Vr ?_
 refine Os 2 [(16, nt 0), (17, nt 1)] ?_
 refine Oe ?_
 refine V_ret ?_
 refine X_ret_block ?_
 refine X_ret_then ?_
 have hE96 : subE xs cs s ts rs who of after = 1 := subE1 (.inl (by simpa using hg13))
 obtain ⟨h196, h296, h396⟩ := sub_no hE96 (by decide)
 exact X_return (.tuple #[nt 0, nt 1]) rfl ⟨by rw [hE96]; rfl, ⟨H, F, G, (by rw [h396]; exact hR), (by rw [h296]; exact hV), (by rw [h196]; exact hl), hHr, hFr, hGr, hHF, hHG, hFG⟩, hK0⟩
end Go.Al


namespace Go.Al
open Go Go.RowKit Go.Proofs
section
variable {xs : List Acc} {cs : List Ci} {s : VS} {ts : List Trk} {rs : List Rfm} {who of after ref now : Int}
theorem getR_at (h : (getR rs ref).isSome = true) : getR rs ref = some (getA rs ref) := by
  unfold getA
  cases hx : getR rs ref with
  | none => rw [hx] at h; cases h
  | some x => rfl
theorem getA_at (hin : RfIn ts rs) (h : getR rs ref = some (getA rs ref)) : (0 ≤ ref ∧ ref < rs.length) ∧ (0 ≤ (getA rs ref).track ∧ (getA rs ref).track < ts.length) ∧ rs[ref.toNat]? = some (getA rs ref) := by
  obtain ⟨h1, h2, h3, _⟩ := getA_in hin h
  exact ⟨h1, h2, h3⟩
theorem depE_at (h : getR rs ref = some (getA rs ref)) : depE xs cs ts rs who ref = if (getA rs ref).state ≠ 1 then 9 else if (getA rs ref).backer ≠ -1 then 5 else spendsE xs cs who (trkA ts (getA rs ref).track).deposit := by unfold depE; rw [h]
theorem dep_no {k : Int} (h : depE xs cs ts rs who ref = k) (hk : k ≠ 0) : depX xs cs ts rs who ref = xs ∧ depR xs cs ts rs who ref = rs := by
  constructor
  · unfold depX; rw [h, if_neg hk]
  · unfold depR; rw [h, if_neg hk]
theorem dep_go (h : depE xs cs ts rs who ref = 0) : depX xs cs ts rs who ref = resX xs cs who (trkA ts (getA rs ref).track).deposit ∧ depR xs cs ts rs who ref = rs.set ref.toNat { getA rs ref with backer := who } := by
  constructor
  · unfold depX; rw [if_pos h]
  · unfold depR; rw [if_pos h]
theorem rfdE_at (h : getR rs ref = some (getA rs ref)) : rfdE rs who ref = if (getA rs ref).state = 1 then 9 else if putB (getA rs ref) who = false ∧ bakB (getA rs ref) who = false then 8 else 0 := by unfold rfdE; rw [h]
theorem rfd_no {k : Int} (h : rfdE rs who ref = k) (hk : k ≠ 0) : rfdX xs ts rs who ref = xs ∧ rfdR rs who ref = rs := by
  constructor
  · unfold rfdX; rw [h, if_neg hk]
  · unfold rfdR; rw [h, if_neg hk]
theorem rfd_go (h : rfdE rs who ref = 0) : rfdX xs ts rs who ref = rfdX2 (rfdX1 xs (getA rs ref) who) ts (getA rs ref) who ∧ rfdR rs who ref = rs.set ref.toNat (rfdY (getA rs ref) who) := by
  constructor
  · unfold rfdX; rw [if_pos h]
  · unfold rfdR; rw [if_pos h]
end

set_option maxRecDepth 10000 in
set_option maxHeartbeats 1000000 in
theorem deposit_no (H : Nat → Prop) (r g : Nat) (ts : List Trk) (rs : List Rfm) (G : Nat → Prop) (l : Nat) (xs : List Acc) (cs : List Ci) (who ref : Int) (w : World) (hR : Rfr H w r g ts rs) (hl : Led G w l xs cs) (hHG : ∀ q, H q → ¬ G q) (hx : getR rs ref = none) : Calls Tryz.prog 21 #[.pointer (some ⟨r, 0, none⟩), .pointer (some ⟨l, 0, none⟩), .int .i64 who, .int .i64 ref] w fun e w' => e = .returned (.int .i64 (depE xs cs ts rs who ref)) ∧ (∃ H' G', Rfr H' w' r g ts (depR xs cs ts rs who ref) ∧ Led G' w' l (depX xs cs ts rs who ref) cs ∧ (∀ q, H' q → H q ∨ w.heap.size ≤ q) ∧ (∀ q, G' q → G q ∨ w.heap.size ≤ q) ∧ (∀ q, H' q → ¬ G' q)) ∧ Keep (fun q => q = g ∨ G q) w w' := by
 have hHlt := Rfr.lt hR
 have hrH := Rfr.at_ hR
 have hgH := Rfr.atg hR
 have hrlt := hHlt _ hrH
 have hglt := hHlt _ hgH
 have hin := Rfr.inn hR
 obtain ⟨A, cap, hr, hA, hAo, hrg⟩ := Rfr.parts hR
 have hAlt := SlT.lt hA
 have hAr : ∀ q, inA A q → q ≠ r ∧ q ≠ g ∧ q < w.heap.size := fun q hq => ⟨(hAo q hq).2.1, (hAo q hq).2.2, hAlt q hq⟩
 have hgo : ∀ q, only g q → q ≠ r ∧ q = g := fun q hq => ⟨fun e => hrg (e.symm.trans hq), hq⟩
 have hgl : ∀ q, only g q → q < w.heap.size := fun q hq => by rw [show q = g from hq]; exact hglt
 have hHo : ∀ q, H q → 0 ≤ q := fun q _ => Nat.zero_le q
 have htl := hin.tl
 have hrl := hin.rl
 have hGlt := Led.lt hl
 have hllt := hGlt _ (Led.at_ hl)
 have hlr : ∀ q, G q → q ≠ r := fun q hq e => hHG r hrH (e ▸ hq)
 have hinv := Led.inv hl
 have hHr : ∀ q, H q → H q ∨ w.heap.size ≤ q := fun _ h => .inl h
 have hGr : ∀ q, G q → G q ∨ w.heap.size ≤ q := fun _ h => .inl h
 have hK0 : Keep (fun q => q = g ∨ G q) w w := Keep.refl _ _
 have hzhK0 := Keep.size hK0
 refine enterV Tryz.func21 rfl [pt r, pt l, nt who, nt ref] 59 rfl rfl rfl ?_
 refine V_pick [(0, pt r), (1, pt l), (2, nt who), (3, nt ref)] rfl ?_
 refine Vr ?_
 refine Os 1 [(0, pt r), (1, pt l), (2, nt who), (3, nt ref)] ?_
 refine Oe ?_
 refine V_seq ?_
 refine Vr ?_
 refine Os 6 [(0, pt r), (1, pt l), (2, nt who), (3, nt ref), (17, .bool false)] ?_
 refine Oe ?_
 refine V_false rfl ?_
 refine V_skip ?_
 refine X_then ?_
 refine Vr ?_
 refine Os 2 [(0, pt r), (1, pt l), (2, nt who), (3, nt ref), (19, pt r), (20, nt ref)] ?_
 refine Ok { callee := (Callee.value (Operand.func 23)), args := #[(Operand.tmp 19), (Operand.tmp 20)], argTypes := #[34, 3] } 23 #[pt r, nt ref] (some 21) (rget_spec H r g ts rs ref _ hR) ?_
 rintro _ w1 ⟨rfl, hk2⟩
 refine ⟨_, rfl, ?_⟩
 have hsz3 := Keep.size hk2
 replace hr := hr.keep hk2 (fun f => f)
 replace hA := SlT.keep0 hA hk2
 replace hR := Rfr.keep hR hk2 (fun _ _ f => f)
 replace hl := Led.keep hl hk2 (fun _ _ f => f)
 replace hK0 := Keep.tr hK0 (Keep.ofNone hk2)
 refine Os 6 [(0, pt r), (1, pt l), (2, nt who), (3, nt ref), (22, .agg (Rfm.cells (getA rs ref)).toArray), (23, .bool ((getR rs ref).isSome))] ?_
 refine OI_alloc 57 (.agg (Rfm.cells Rfm.zero).toArray) (Rfm.cells Rfm.zero) (some 9) (by kernel_rfl) (by kernel_rfl) (by kernel_rfl) ?_
 intro b4 w4 e4 hb4 k4 z4
 have hsz5 := Keep.size k4
 replace hr := hr.keep k4 (fun f => f)
 replace hA := SlT.keep0 hA k4
 replace hR := Rfr.keep hR k4 (fun _ _ f => f)
 replace hl := Led.keep hl k4 (fun _ _ f => f)
 replace hK0 := Keep.tr hK0 (Keep.ofNone k4)
 have hb4lt := hb4.lt
 refine OI_set (m := 45) (kd := true) 57 (.tmp 9) (.tmp 22) 0 (.agg (Rfm.cells (getA rs ref)).toArray) (Rfm.cells (getA rs ref)) none (by kernel_rfl) (by kernel_rfl) (by kernel_rfl) hb4 (by kernel_rfl) rfl (Rfm.len _) (Nat.le_of_ble_eq_true (by kernel_rfl)) (Rfm.one _) ?_
 intro w6 hb4_9 hk7 hz8
 replace hb4_9 : Blk w6 b4 (Rfm.cells (getA rs ref)) 57 := (Blk.eqL (Rfm.over _ _) hb4_9)
 have hsz10 := Keep.size hk7
 replace hr := hr.keep hk7 (by show ¬ (_ = _); omega)
 replace hA := SlT.keep hA hk7 (fun q hq hs => by have hs : q = b4 := hs; have g0 := hAr q hq; have g1 := hAlt q hq; omega)
 replace hR := Rfr.keep hR hk7 (fun q hq hs => by have hs : q = b4 := hs; have g0 := hHo q hq; have g1 := hHlt q hq; omega)
 replace hl := Led.keep hl hk7 (fun q hq hs => by have hs : q = b4 := hs; have g0 := hlr q hq; have g1 := hGlt q hq; omega)
 replace hK0 := Keep.fresh hK0 hk7 (by intro i hi hs; first | exact hs | exact Or.inl hs | exact Or.inr hs | (exfalso; have hs2 : i = b4 := hs; omega))
 refine Os 9 [(0, pt r), (1, pt l), (2, nt who), (3, nt ref), (9, pt b4), (10, .bool ((getR rs ref).isSome))] ?_
 refine Oe ?_
 refine V_seq ?_
 refine V_block ?_
 refine Vr ?_
 refine Os 3 [(0, pt r), (1, pt l), (2, nt who), (3, nt ref), (9, pt b4), (24, .bool (!((getR rs ref).isSome)))] ?_
 refine Oe ?_
 refine V_eq [(0, pt r), (1, pt l), (2, nt who), (3, nt ref), (9, pt b4), (24, .bool true)] (by rw [hx]; rfl) ?_
 refine V_true rfl ?_
 refine Vr ?_
 refine Os 1 [(8, nt 4)] ?_
 refine Oe ?_
 refine V_ret ?_
 refine X_ret_block ?_
 refine X_ret_then ?_
 have hE12 : depE xs cs ts rs who ref = 4 := by unfold depE; rw [hx]
 obtain ⟨h112, h212⟩ := dep_no (xs := xs) hE12 (by decide)
 exact X_return (nt 4) rfl ⟨by rw [hE12], ⟨H, G, (by rw [h212]; exact hR), (by rw [h112]; exact hl), hHr, hGr, hHG⟩, hK0⟩

set_option maxRecDepth 10000 in
set_option maxHeartbeats 1000000 in
theorem deposit_at (H : Nat → Prop) (r g : Nat) (ts : List Trk) (rs : List Rfm) (G : Nat → Prop) (l : Nat) (xs : List Acc) (cs : List Ci) (who ref : Int) (w : World) (hR : Rfr H w r g ts rs) (hl : Led G w l xs cs) (hHG : ∀ q, H q → ¬ G q) (hx : getR rs ref = some (getA rs ref)) : Calls Tryz.prog 21 #[.pointer (some ⟨r, 0, none⟩), .pointer (some ⟨l, 0, none⟩), .int .i64 who, .int .i64 ref] w fun e w' => e = .returned (.int .i64 (depE xs cs ts rs who ref)) ∧ (∃ H' G', Rfr H' w' r g ts (depR xs cs ts rs who ref) ∧ Led G' w' l (depX xs cs ts rs who ref) cs ∧ (∀ q, H' q → H q ∨ w.heap.size ≤ q) ∧ (∀ q, G' q → G q ∨ w.heap.size ≤ q) ∧ (∀ q, H' q → ¬ G' q)) ∧ Keep (fun q => q = g ∨ G q) w w' := by
 have hHlt := Rfr.lt hR
 have hrH := Rfr.at_ hR
 have hgH := Rfr.atg hR
 have hrlt := hHlt _ hrH
 have hglt := hHlt _ hgH
 have hin := Rfr.inn hR
 obtain ⟨A, cap, hr, hA, hAo, hrg⟩ := Rfr.parts hR
 have hAlt := SlT.lt hA
 have hAr : ∀ q, inA A q → q ≠ r ∧ q ≠ g ∧ q < w.heap.size := fun q hq => ⟨(hAo q hq).2.1, (hAo q hq).2.2, hAlt q hq⟩
 have hgo : ∀ q, only g q → q ≠ r ∧ q = g := fun q hq => ⟨fun e => hrg (e.symm.trans hq), hq⟩
 have hgl : ∀ q, only g q → q < w.heap.size := fun q hq => by rw [show q = g from hq]; exact hglt
 have hHo : ∀ q, H q → 0 ≤ q := fun q _ => Nat.zero_le q
 have htl := hin.tl
 have hrl := hin.rl
 have hGlt := Led.lt hl
 have hllt := hGlt _ (Led.at_ hl)
 have hlr : ∀ q, G q → q ≠ r := fun q hq e => hHG r hrH (e ▸ hq)
 have hinv := Led.inv hl
 have hHr : ∀ q, H q → H q ∨ w.heap.size ≤ q := fun _ h => .inl h
 have hGr : ∀ q, G q → G q ∨ w.heap.size ≤ q := fun _ h => .inl h
 obtain ⟨href, htr, hrat⟩ := getA_at hin hx
 obtain ⟨jt, hjt, hjl, htk, htm⟩ := trkA_at htr
 have hokt := hin.tok _ htm
 have hdep : 0 ≤ (trkA ts (getA rs ref).track).deposit ∧ (trkA ts (getA rs ref).track).deposit ≤ 1073741824 := hokt.2.1
 have hK0 : Keep (fun q => q = g ∨ G q) w w := Keep.refl _ _
 have hzhK0 := Keep.size hK0
 refine enterV Tryz.func21 rfl [pt r, pt l, nt who, nt ref] 59 rfl rfl rfl ?_
 refine V_pick [(0, pt r), (1, pt l), (2, nt who), (3, nt ref)] rfl ?_
 refine Vr ?_
 refine Os 1 [(0, pt r), (1, pt l), (2, nt who), (3, nt ref)] ?_
 refine Oe ?_
 refine V_seq ?_
 refine Vr ?_
 refine Os 6 [(0, pt r), (1, pt l), (2, nt who), (3, nt ref), (17, .bool false)] ?_
 refine Oe ?_
 refine V_false rfl ?_
 refine V_skip ?_
 refine X_then ?_
 refine Vr ?_
 refine Os 2 [(0, pt r), (1, pt l), (2, nt who), (3, nt ref), (19, pt r), (20, nt ref)] ?_
 refine Ok { callee := (Callee.value (Operand.func 23)), args := #[(Operand.tmp 19), (Operand.tmp 20)], argTypes := #[34, 3] } 23 #[pt r, nt ref] (some 21) (rget_spec H r g ts rs ref _ hR) ?_
 rintro _ w1 ⟨rfl, hk2⟩
 refine ⟨_, rfl, ?_⟩
 have hsz3 := Keep.size hk2
 replace hr := hr.keep hk2 (fun f => f)
 replace hA := SlT.keep0 hA hk2
 replace hR := Rfr.keep hR hk2 (fun _ _ f => f)
 replace hl := Led.keep hl hk2 (fun _ _ f => f)
 replace hK0 := Keep.tr hK0 (Keep.ofNone hk2)
 refine Os 6 [(0, pt r), (1, pt l), (2, nt who), (3, nt ref), (22, .agg (Rfm.cells (getA rs ref)).toArray), (23, .bool ((getR rs ref).isSome))] ?_
 refine OI_alloc 57 (.agg (Rfm.cells Rfm.zero).toArray) (Rfm.cells Rfm.zero) (some 9) (by kernel_rfl) (by kernel_rfl) (by kernel_rfl) ?_
 intro b4 w4 e4 hb4 k4 z4
 have hsz5 := Keep.size k4
 replace hr := hr.keep k4 (fun f => f)
 replace hA := SlT.keep0 hA k4
 replace hR := Rfr.keep hR k4 (fun _ _ f => f)
 replace hl := Led.keep hl k4 (fun _ _ f => f)
 replace hK0 := Keep.tr hK0 (Keep.ofNone k4)
 have hb4lt := hb4.lt
 refine OI_set (m := 45) (kd := true) 57 (.tmp 9) (.tmp 22) 0 (.agg (Rfm.cells (getA rs ref)).toArray) (Rfm.cells (getA rs ref)) none (by kernel_rfl) (by kernel_rfl) (by kernel_rfl) hb4 (by kernel_rfl) rfl (Rfm.len _) (Nat.le_of_ble_eq_true (by kernel_rfl)) (Rfm.one _) ?_
 intro w6 hb4_9 hk7 hz8
 replace hb4_9 : Blk w6 b4 (Rfm.cells (getA rs ref)) 57 := (Blk.eqL (Rfm.over _ _) hb4_9)
 have hsz10 := Keep.size hk7
 replace hr := hr.keep hk7 (by show ¬ (_ = _); omega)
 replace hA := SlT.keep hA hk7 (fun q hq hs => by have hs : q = b4 := hs; have g0 := hAr q hq; have g1 := hAlt q hq; omega)
 replace hR := Rfr.keep hR hk7 (fun q hq hs => by have hs : q = b4 := hs; have g0 := hHo q hq; have g1 := hHlt q hq; omega)
 replace hl := Led.keep hl hk7 (fun q hq hs => by have hs : q = b4 := hs; have g0 := hlr q hq; have g1 := hGlt q hq; omega)
 replace hK0 := Keep.fresh hK0 hk7 (by intro i hi hs; first | exact hs | exact Or.inl hs | exact Or.inr hs | (exfalso; have hs2 : i = b4 := hs; omega))
 refine Os 9 [(0, pt r), (1, pt l), (2, nt who), (3, nt ref), (9, pt b4), (10, .bool ((getR rs ref).isSome))] ?_
 refine Oe ?_
 refine V_seq ?_
 refine V_block ?_
 refine Vr ?_
 refine Os 3 [(0, pt r), (1, pt l), (2, nt who), (3, nt ref), (9, pt b4), (24, .bool (!((getR rs ref).isSome)))] ?_
 refine Oe ?_
 refine V_eq [(0, pt r), (1, pt l), (2, nt who), (3, nt ref), (9, pt b4), (24, .bool false)] (by rw [hx]; rfl) ?_
 refine V_false rfl ?_
 refine Vr ?_
 refine Os 1 [(0, pt r), (1, pt l), (2, nt who), (3, nt ref), (9, pt b4), (28, pt b4)] ?_
 refine Oc 3 (.tmp 28) 0 (nt ((getA rs ref).state)) (some 29) hb4_9 rfl ?_
 refine Os 4 [(0, pt r), (1, pt l), (2, nt who), (3, nt ref), (9, pt b4), (27, .bool (!(decide ((getA rs ref).state = 1))))] ?_
 refine Oe ?_
 refine V_not ((getA rs ref).state = 1) (by kernel_rfl) (fun hc12 => ?_) (fun hc12 => ?_)
 ·
  refine Vr ?_
  refine Os 1 [(8, nt 9)] ?_
  refine Oe ?_
  refine V_ret ?_
  refine X_ret_block ?_
  refine X_ret_then ?_
  have hE13 : depE xs cs ts rs who ref = 9 := by rw [depE_at hx, if_pos hc12]
  obtain ⟨h113, h213⟩ := dep_no (xs := xs) hE13 (by decide)
  exact X_return (nt 9) rfl ⟨by rw [hE13], ⟨H, G, (by rw [h213]; exact hR), (by rw [h113]; exact hl), hHr, hGr, hHG⟩, hK0⟩
 refine Vr ?_
 refine Os 1 [(0, pt r), (1, pt l), (2, nt who), (3, nt ref), (9, pt b4), (32, .pointer (some ⟨b4, 38, none⟩))] ?_
 refine Oc 3 (.tmp 32) 38 (nt ((getA rs ref).backer)) (some 33) hb4_9 rfl ?_
 refine Os 4 [(0, pt r), (1, pt l), (2, nt who), (3, nt ref), (9, pt b4), (31, .bool (!(decide ((getA rs ref).backer = -1))))] ?_
 refine Oe ?_
 refine V_not ((getA rs ref).backer = -1) (by kernel_rfl) (fun hc14 => ?_) (fun hc14 => ?_)
 ·
  refine Vr ?_
  refine Os 1 [(8, nt 5)] ?_
  refine Oe ?_
  refine V_ret ?_
  refine X_ret_block ?_
  refine X_ret_then ?_
  have hE15 : depE xs cs ts rs who ref = 5 := by rw [depE_at hx, if_neg (fun h => h hc12), if_pos hc14]
  obtain ⟨h115, h215⟩ := dep_no (xs := xs) hE15 (by decide)
  exact X_return (nt 5) rfl ⟨by rw [hE15], ⟨H, G, (by rw [h215]; exact hR), (by rw [h115]; exact hl), hHr, hGr, hHG⟩, hK0⟩
 refine V_skip ?_
 refine X_block ?_
 refine X_then ?_
 refine V_seq ?_
 refine V_seq ?_
 refine V_draws (acts [11]) none_ [[0, 1, 2, 3, 4, 5, 6, 7, 8, 9, 10, 11, 12]] (by kernel_rfl) (by repeat first | exact sure_body (by rintro _ _ ⟨h, _⟩; exact ⟨_, h⟩) | refine sure_then ?_ | refine sure_block ?_ | refine sure_join ?_) (by kernel_rfl) ?_
 intro w17 hk16 he18 L hL19
 have hsz20 := Keep.size hk16
 replace hr := hr.keep hk16 (fun f => f)
 replace hb4_9 := hb4_9.keep hk16 (fun f => f)
 replace hA := SlT.keep0 hA hk16
 replace hR := Rfr.keep hR hk16 (fun _ _ f => f)
 replace hl := Led.keep hl hk16 (fun _ _ f => f)
 replace hK0 := Keep.tr hK0 (Keep.ofNone hk16)
 have qhr := hr
 have qhb4_9 := hb4_9
 have K21 : Keep none_ w17 w17 := Keep.refl _ _
 obtain rfl := List.mem_singleton.1 hL19
 refine Gs [5, 6, 7, 8, 9, 10, 11, 12] [(0, pt r), (2, nt who), (3, nt ref), (9, pt b4), (35, pt l), (36, nt who), (39, pt r)] ?_
 refine Gc0 29 (.tmp 39) 0 (.slice A ts.length cap) (some 40) qhr rfl ?_
 refine Gs [7, 8, 9, 10, 11, 12] [(0, pt r), (2, nt who), (3, nt ref), (9, pt b4), (35, pt l), (36, nt who), (40, .slice A ts.length cap), (41, .pointer (some ⟨b4, 1, none⟩))] ?_
 refine Gc0 3 (.tmp 41) 1 (nt ((getA rs ref).track)) (some 42) qhb4_9 rfl ?_
 obtain ⟨b22, o22, L22, T22, rfl, hat22⟩ := SlT.open_ hA (by first | omega | (simp only [List.length_map]; omega) | (simp; done) | (simp; omega))
 have hb22lt := hat22.blk.lt
 have hob23 := hAr b22 ⟨_, rfl, rfl⟩
 have hob24 := hAlt b22 ⟨_, rfl, rfl⟩
 have hne25 : ∀ q, G q → q ≠ b22 := fun q hq hs => (fun q h1 h2 => hHG q (hAo q h2).1 h1) q hq ⟨_, rfl, hs⟩
 have own26 := fun q hq => And.intro (hlr q hq) (hne25 q hq)
 refine Gp_ [(0, pt r), (2, nt who), (3, nt ref), (9, pt b4), (35, pt l), (36, nt who), (40, .slice (some ⟨b22, o22, none⟩) ts.length cap), (42, nt ((getA rs ref).track))] ?_
 refine GI_eq [(0, pt r), (2, nt who), (3, nt ref), (9, pt b4), (35, pt l), (36, nt who), (40, .slice (some ⟨b22, o22, none⟩) ts.length cap), (42, nt ((jt : Nat) : Int))] (by rw [hjt]) ?_
 refine GI_pure (some 43) (.indexAddr 29 (.tmp 40) (.tmp 42)) (by kernel_rfl) (by kernel_rfl) (pure_idxN (b := b22) (o := o22) (len := ts.length) (cap := cap) (kd := .i64) (j := jt) (E := 27) (sz := 18) (by_ := 144) (by kernel_rfl) (by kernel_rfl) (by kernel_rfl) (by omega)) ?_
 refine Gs [10, 11, 12] [(0, pt r), (2, nt who), (3, nt ref), (9, pt b4), (35, pt l), (36, nt who), (44, .pointer (some ⟨b22, o22 + jt * 18 + 1, none⟩))] ?_
 refine Gc0 3 (.tmp 44) (o22 + jt * 18 + 1) (nt ((trkA ts (getA rs ref).track).deposit)) (some 45) hat22.blk (At.cell hat22 (es_at htk) rfl) ?_
 refine Gk0 { callee := (Callee.value (Operand.func 43)), args := #[(Operand.tmp 35), (Operand.tmp 36), (Operand.tmp 45)], argTypes := #[32, 3, 3] } 43 #[pt l, nt who, nt ((trkA ts (getA rs ref).track).deposit)] (some 46) (reserve_spec G l xs cs who ((trkA ts (getA rs ref).track).deposit) _ hl) ?_
 rintro _ w29 ⟨rfl, ⟨F31, ho32, hfr33⟩, hk30⟩
 refine ⟨_, rfl, ?_⟩
 have hsz34 := Keep.size hk30
 replace hr := hr.keep hk30 (fun hs => by have h1 := own26 _ hs; have h2 := hGlt _ hs; omega)
 replace hb4_9 := hb4_9.keep hk30 (fun hs => by have h1 := own26 _ hs; have h2 := hGlt _ hs; omega)
 replace hat22 := hat22.keep hk30 (fun hs => by have h1 := own26 _ hs; have h2 := hGlt _ hs; omega)
 replace hR := Rfr.keep hR hk30 (fun q hq hs => (fun q h1 h2 => hHG q h2 h1) q hs hq)
 replace hK0 := Keep.fresh hK0 hk30 (fun i hi hs => by rcases hGr i hs with h | h; exact .inr <| h; (exfalso; omega))
 have own36 : ∀ q, F31 q → q ≠ r ∧ q ≠ r ∧ q ≠ b4 := fun q hq => by rcases hfr33 q hq with h | h; (have h1 := own26 q h; have h2 := hGlt q h; omega); omega
 have lt35 := Led.lt ho32
 have rel37 : ∀ q, F31 q → G q ∨ w.heap.size ≤ q := fun q hq => by rcases hfr33 q hq with h | h; exact hGr q h; exact .inr (by omega)
 have dis38 : ∀ q, F31 q → ¬ H q := fun q h1 h2 => by rcases hfr33 q h1 with h | h; exact (fun q h1 h2 => hHG q h2 h1) q h h2; (have h4 := hHlt q h2; omega)
 refine Gs [] [(0, pt r), (2, nt who), (3, nt ref), (9, pt b4), (11, nt (spendsE xs cs who ((trkA ts (getA rs ref).track).deposit)))] ?_
 refine GI_end ?_
 refine X_then ?_
 refine Vr ?_
 refine Os 2 [(0, pt r), (2, nt who), (3, nt ref), (9, pt b4), (11, nt (spendsE xs cs who ((trkA ts (getA rs ref).track).deposit))), (48, .bool (!(decide (spendsE xs cs who ((trkA ts (getA rs ref).track).deposit) = 0))))] ?_
 refine Oe ?_
 refine V_not (spendsE xs cs who ((trkA ts (getA rs ref).track).deposit) = 0) (by kernel_rfl) (fun hc39 => ?_) (fun hc39 => ?_)
 ·
  refine Vr ?_
  refine Os 2 [(8, nt (spendsE xs cs who ((trkA ts (getA rs ref).track).deposit)))] ?_
  refine Oe ?_
  refine V_ret ?_
  refine X_ret_then ?_
  have hE40 : depE xs cs ts rs who ref = (spendsE xs cs who ((trkA ts (getA rs ref).track).deposit)) := by rw [depE_at hx, if_neg (fun h => h hc12), if_neg (fun h => h hc14)]
  obtain ⟨h140, h240⟩ := dep_no (xs := xs) hE40 (hc39)
  exact X_return (nt (spendsE xs cs who ((trkA ts (getA rs ref).track).deposit))) rfl ⟨by rw [hE40], ⟨H, F31, (by rw [h240]; exact hR), (by rw [show depX xs cs ts rs who ref = resX xs cs who (trkA ts (getA rs ref).track).deposit from h140.trans (by unfold resX; rw [if_neg (hc39)])]; exact ho32), hHr, rel37, (fun q h1 h2 => dis38 q h2 h1)⟩, hK0⟩
 refine V_skip ?_
 refine X_then ?_
 refine Vr ?_
 refine Os 2 [(0, pt r), (3, nt ref), (9, pt b4), (50, nt who), (51, .pointer (some ⟨b4, 38, none⟩))] ?_
 refine OI_set (m := 1) (kd := false) 3 (.tmp 51) (.tmp 50) 38 (nt who) [nt who] none (by kernel_rfl) (by kernel_rfl) (by kernel_rfl) hb4_9 (by kernel_rfl) (by kernel_rfl) (by kernel_rfl) (Nat.le_of_ble_eq_true (by kernel_rfl)) (by simp [Value.oneCell']) ?_
 intro w41 hb4_44 hk42 hz43
 replace hb4_44 : Blk w41 b4 (Rfm.cells { (getA rs ref) with backer := who }) 57 := (Blk.eqL (by kernel_rfl) hb4_44)
 have hsz45 := Keep.size hk42
 replace hr := hr.keep hk42 (by show ¬ (_ = _); omega)
 replace hat22 := hat22.keep hk42 (by show ¬ (_ = _); omega)
 replace hR := Rfr.keep hR hk42 (fun q hq hs => by have hs : q = b4 := hs; have g0 := hHo q hq; have g1 := hHlt q hq; omega)
 replace hK0 := Keep.fresh hK0 hk42 (by intro i hi hs; first | exact hs | exact Or.inl hs | exact Or.inr hs | (exfalso; have hs2 : i = b4 := hs; omega))
 replace ho32 := Led.keep ho32 hk42 (fun q hq hs => by have hs : q = b4 := hs; have g0 := own36 q hq; have g1 := lt35 q hq; omega)
 refine Oe ?_
 refine V_seq ?_
 refine V_draws (acts [6]) none_ [[0, 1, 2, 3, 4, 5, 6]] (by kernel_rfl) (by repeat first | exact sure_body (by rintro _ _ ⟨h, _⟩; exact ⟨_, h⟩) | refine sure_then ?_ | refine sure_block ?_ | refine sure_join ?_) (by kernel_rfl) ?_
 intro w47 hk46 he48 L hL49
 have hsz50 := Keep.size hk46
 replace hr := hr.keep hk46 (fun f => f)
 replace hb4_44 := hb4_44.keep hk46 (fun f => f)
 replace hat22 := hat22.keep hk46 (fun f => f)
 replace hR := Rfr.keep hR hk46 (fun _ _ f => f)
 replace hK0 := Keep.tr hK0 (Keep.ofNone hk46)
 replace ho32 := Led.keep ho32 hk46 (fun _ _ f => f)
 have qhr := hr
 have qhb4_44 := hb4_44
 have qhat22 := hat22
 have K51 : Keep none_ w47 w47 := Keep.refl _ _
 obtain rfl := List.mem_singleton.1 hL49
 refine Gs [3, 4, 5, 6] [(3, nt ref), (9, pt b4), (54, .pointer (some ⟨r, 1, none⟩))] ?_
 refine Gc0 95 (.tmp 54) 1 (pt g) (some 55) qhr rfl ?_
 refine Gs [5, 6] [(9, pt b4), (55, pt g), (56, nt ref)] ?_
 refine Ga 57 (.tmp 9) 0 (Rfm.cells { (getA rs ref) with backer := who }) (some 57) 45 qhb4_44 (fun f => f) (take_all (Rfm.len _)) (Rfm.len _) ?_
 refine GI_final 6 (by kernel_rfl) (by kernel_rfl) ?_
 refine Ok { callee := (Callee.value (Operand.func 45)), args := #[(Operand.tmp 55), (Operand.const (Value.int IntKind.i64 0)), (Operand.tmp 56), (Operand.tmp 57)], argTypes := #[95, 3, 3, 57] } 45 #[pt g, nt 0, nt ref, .agg (Rfm.cells { (getA rs ref) with backer := who }).toArray] (some 58) (rset_spec H r g ts rs ref ({ (getA rs ref) with backer := who }) _ hR href htr) ?_
 rintro _ w54 ⟨rfl, ⟨H56, hR57, hfr58⟩, hk55⟩
 refine ⟨_, rfl, ?_⟩
 have hsz59 := Keep.size hk55
 replace hr := hr.keep hk55 (fun hs => by have h1 := hgo _ hs; have h2 := hgl _ hs; omega)
 replace hb4_44 := hb4_44.keep hk55 (fun hs => by have h1 := hgo _ hs; have h2 := hgl _ hs; omega)
 replace hat22 := hat22.keep hk55 (fun hs => by have h1 := hgo _ hs; have h2 := hgl _ hs; omega)
 replace hK0 := Keep.fresh hK0 hk55 (by intro i hi hs; first | exact hs | (exfalso; have h1 := hgo i hs; have h2 := hgl i hs; omega) | (have h1 := hgo i hs; have h2 := hgl i hs; show _ ∨ _; omega))
 replace ho32 := Led.keep ho32 hk55 (fun q hq hs => (fun q h1 h2 => (fun q h1 h2 => dis38 q h2 h1) q (by rw [show q = g from h1]; exact hgH) h2) q hs hq)
 have own61 : ∀ q, H56 q → 0 ≤ q ∧ q ≠ b4 := fun q hq => by rcases hfr58 q hq with h | h; (have h1 := hHo q h; have h2 := hHlt q h; omega); omega
 have lt60 := Rfr.lt hR57
 have rel62 : ∀ q, H56 q → H q ∨ w.heap.size ≤ q := fun q hq => by rcases hfr58 q hq with h | h; exact hHr q h; exact .inr (by omega)
 have dis63 : ∀ q, H56 q → ¬ F31 q := fun q h1 h2 => by rcases hfr58 q h1 with h | h; exact (fun q h1 h2 => dis38 q h2 h1) q h h2; (have h4 := lt35 q h2; omega)
 refine Oer ?_
 refine Os 1 [(8, nt 0)] ?_
 refine Oe ?_
 refine V_ret ?_
 have hE64 : depE xs cs ts rs who ref = 0 := by rw [depE_at hx, if_neg (fun h => h hc12), if_neg (fun h => h hc14)]; exact hc39
 obtain ⟨h164, h264⟩ := dep_go hE64
 exact X_return (nt 0) rfl ⟨by rw [hE64], ⟨H56, F31, (by rw [h264]; exact hR57), (by rw [h164]; exact ho32), rel62, rel37, dis63⟩, hK0⟩

theorem deposit_spec (H : Nat → Prop) (r g : Nat) (ts : List Trk) (rs : List Rfm) (G : Nat → Prop) (l : Nat) (xs : List Acc) (cs : List Ci) (who ref : Int) (w : World) (hR : Rfr H w r g ts rs) (hl : Led G w l xs cs) (hHG : ∀ q, H q → ¬ G q) : Calls Tryz.prog 21 #[.pointer (some ⟨r, 0, none⟩), .pointer (some ⟨l, 0, none⟩), .int .i64 who, .int .i64 ref] w fun e w' => e = .returned (.int .i64 (depE xs cs ts rs who ref)) ∧ (∃ H' G', Rfr H' w' r g ts (depR xs cs ts rs who ref) ∧ Led G' w' l (depX xs cs ts rs who ref) cs ∧ (∀ q, H' q → H q ∨ w.heap.size ≤ q) ∧ (∀ q, G' q → G q ∨ w.heap.size ≤ q) ∧ (∀ q, H' q → ¬ G' q)) ∧ Keep (fun q => q = g ∨ G q) w w' := by
  cases hx : getR rs ref with
  | none => exact deposit_no H r g ts rs G l xs cs who ref w hR hl hHG hx
  | some x => exact deposit_at H r g ts rs G l xs cs who ref w hR hl hHG (getR_at (by rw [hx]; rfl))

set_option maxRecDepth 10000 in
set_option maxHeartbeats 1000000 in
theorem refund_no (H : Nat → Prop) (r g : Nat) (ts : List Trk) (rs : List Rfm) (G : Nat → Prop) (l : Nat) (xs : List Acc) (cs : List Ci) (who ref : Int) (w : World) (hR : Rfr H w r g ts rs) (hl : Led G w l xs cs) (hHG : ∀ q, H q → ¬ G q) (hx : getR rs ref = none) : Calls Tryz.prog 30 #[.pointer (some ⟨r, 0, none⟩), .pointer (some ⟨l, 0, none⟩), .int .i64 who, .int .i64 ref] w fun e w' => e = .returned (.int .i64 (rfdE rs who ref)) ∧ (∃ H' G', Rfr H' w' r g ts (rfdR rs who ref) ∧ Led G' w' l (rfdX xs ts rs who ref) cs ∧ (∀ q, H' q → H q ∨ w.heap.size ≤ q) ∧ (∀ q, G' q → G q ∨ w.heap.size ≤ q) ∧ (∀ q, H' q → ¬ G' q)) ∧ Keep (fun q => q = g ∨ G q) w w' := by
 have hHlt := Rfr.lt hR
 have hrH := Rfr.at_ hR
 have hgH := Rfr.atg hR
 have hrlt := hHlt _ hrH
 have hglt := hHlt _ hgH
 have hin := Rfr.inn hR
 obtain ⟨A, cap, hr, hA, hAo, hrg⟩ := Rfr.parts hR
 have hAlt := SlT.lt hA
 have hAr : ∀ q, inA A q → q ≠ r ∧ q ≠ g ∧ q < w.heap.size := fun q hq => ⟨(hAo q hq).2.1, (hAo q hq).2.2, hAlt q hq⟩
 have hgo : ∀ q, only g q → q ≠ r ∧ q = g := fun q hq => ⟨fun e => hrg (e.symm.trans hq), hq⟩
 have hgl : ∀ q, only g q → q < w.heap.size := fun q hq => by rw [show q = g from hq]; exact hglt
 have hHo : ∀ q, H q → 0 ≤ q := fun q _ => Nat.zero_le q
 have htl := hin.tl
 have hrl := hin.rl
 have hGlt := Led.lt hl
 have hllt := hGlt _ (Led.at_ hl)
 have hlr : ∀ q, G q → q ≠ r := fun q hq e => hHG r hrH (e ▸ hq)
 have hinv := Led.inv hl
 have hHr : ∀ q, H q → H q ∨ w.heap.size ≤ q := fun _ h => .inl h
 have hGr : ∀ q, G q → G q ∨ w.heap.size ≤ q := fun _ h => .inl h
 have hK0 : Keep (fun q => q = g ∨ G q) w w := Keep.refl _ _
 have hzhK0 := Keep.size hK0
 refine enterV Tryz.func30 rfl [pt r, pt l, nt who, nt ref] 82 rfl rfl rfl ?_
 refine V_pick [(0, pt r), (1, pt l), (2, nt who), (3, nt ref)] rfl ?_
 refine Vr ?_
 refine Os 1 [(0, pt r), (1, pt l), (2, nt who), (3, nt ref)] ?_
 refine Oe ?_
 refine V_seq ?_
 refine Vr ?_
 refine Os 6 [(0, pt r), (1, pt l), (2, nt who), (3, nt ref), (18, .bool false)] ?_
 refine Oe ?_
 refine V_false rfl ?_
 refine V_skip ?_
 refine X_then ?_
 refine Vr ?_
 refine Os 2 [(0, pt r), (1, pt l), (2, nt who), (3, nt ref), (20, pt r), (21, nt ref)] ?_
 refine Ok { callee := (Callee.value (Operand.func 23)), args := #[(Operand.tmp 20), (Operand.tmp 21)], argTypes := #[34, 3] } 23 #[pt r, nt ref] (some 22) (rget_spec H r g ts rs ref _ hR) ?_
 rintro _ w1 ⟨rfl, hk2⟩
 refine ⟨_, rfl, ?_⟩
 have hsz3 := Keep.size hk2
 replace hr := hr.keep hk2 (fun f => f)
 replace hA := SlT.keep0 hA hk2
 replace hR := Rfr.keep hR hk2 (fun _ _ f => f)
 replace hl := Led.keep hl hk2 (fun _ _ f => f)
 replace hK0 := Keep.tr hK0 (Keep.ofNone hk2)
 refine Os 6 [(0, pt r), (1, pt l), (2, nt who), (3, nt ref), (23, .agg (Rfm.cells (getA rs ref)).toArray), (24, .bool ((getR rs ref).isSome))] ?_
 refine OI_alloc 57 (.agg (Rfm.cells Rfm.zero).toArray) (Rfm.cells Rfm.zero) (some 9) (by kernel_rfl) (by kernel_rfl) (by kernel_rfl) ?_
 intro b4 w4 e4 hb4 k4 z4
 have hsz5 := Keep.size k4
 replace hr := hr.keep k4 (fun f => f)
 replace hA := SlT.keep0 hA k4
 replace hR := Rfr.keep hR k4 (fun _ _ f => f)
 replace hl := Led.keep hl k4 (fun _ _ f => f)
 replace hK0 := Keep.tr hK0 (Keep.ofNone k4)
 have hb4lt := hb4.lt
 refine OI_set (m := 45) (kd := true) 57 (.tmp 9) (.tmp 23) 0 (.agg (Rfm.cells (getA rs ref)).toArray) (Rfm.cells (getA rs ref)) none (by kernel_rfl) (by kernel_rfl) (by kernel_rfl) hb4 (by kernel_rfl) rfl (Rfm.len _) (Nat.le_of_ble_eq_true (by kernel_rfl)) (Rfm.one _) ?_
 intro w6 hb4_9 hk7 hz8
 replace hb4_9 : Blk w6 b4 (Rfm.cells (getA rs ref)) 57 := (Blk.eqL (Rfm.over _ _) hb4_9)
 have hsz10 := Keep.size hk7
 replace hr := hr.keep hk7 (by show ¬ (_ = _); omega)
 replace hA := SlT.keep hA hk7 (fun q hq hs => by have hs : q = b4 := hs; have g0 := hAr q hq; have g1 := hAlt q hq; omega)
 replace hR := Rfr.keep hR hk7 (fun q hq hs => by have hs : q = b4 := hs; have g0 := hHo q hq; have g1 := hHlt q hq; omega)
 replace hl := Led.keep hl hk7 (fun q hq hs => by have hs : q = b4 := hs; have g0 := hlr q hq; have g1 := hGlt q hq; omega)
 replace hK0 := Keep.fresh hK0 hk7 (by intro i hi hs; first | exact hs | exact Or.inl hs | exact Or.inr hs | (exfalso; have hs2 : i = b4 := hs; omega))
 refine Os 9 [(0, pt r), (1, pt l), (2, nt who), (3, nt ref), (9, pt b4), (10, .bool ((getR rs ref).isSome))] ?_
 refine Oe ?_
 refine V_seq ?_
 refine V_draws (acts []) none_ [[0, 1, 2, 3, 4, 5, 6, 7, 8, 9, 10, 11, 12, 13, 14, 15, 16, 17, 18]] (by kernel_rfl) (by repeat first | exact sure_body (by rintro _ _ ⟨h, _⟩; exact ⟨_, h⟩) | refine sure_then ?_ | refine sure_block ?_ | refine sure_join ?_) (by kernel_rfl) ?_
 intro w12 hk11 he13 L hL14
 have hsz15 := Keep.size hk11
 replace hr := hr.keep hk11 (fun f => f)
 replace hb4_9 := hb4_9.keep hk11 (fun f => f)
 replace hA := SlT.keep0 hA hk11
 replace hR := Rfr.keep hR hk11 (fun _ _ f => f)
 replace hl := Led.keep hl hk11 (fun _ _ f => f)
 replace hK0 := Keep.tr hK0 (Keep.ofNone hk11)
 have qhr := hr
 have qhb4_9 := hb4_9
 have K16 : Keep none_ w12 w12 := Keep.refl _ _
 obtain rfl := List.mem_singleton.1 hL14
 refine Gs [1, 2, 3, 4, 5, 6, 7, 8, 9, 10, 11, 12, 13, 14, 15, 16, 17, 18] [(0, pt r), (1, pt l), (2, nt who), (3, nt ref), (9, pt b4), (10, .bool ((getR rs ref).isSome)), (25, .pointer (some ⟨b4, 37, none⟩))] ?_
 refine Gc0 4 (.tmp 25) 37 (.bool ((getA rs ref).put)) (some 26) qhb4_9 rfl ?_
 refine Gs [3, 4, 5, 6, 7, 8, 9, 10, 11, 12, 13, 14, 15, 16, 17, 18] [(0, pt r), (1, pt l), (2, nt who), (3, nt ref), (9, pt b4), (10, .bool ((getR rs ref).isSome)), (27, .bool ((getA rs ref).put))] ?_
 cases hg17 : ((getA rs ref).put)
 ·
  refine GI_eq [(0, pt r), (1, pt l), (2, nt who), (3, nt ref), (9, pt b4), (10, .bool ((getR rs ref).isSome)), (27, .bool false)] (by first | rfl | rw [hg17]) ?_
  refine Gs [9, 10, 11, 12, 13, 14, 15, 16, 17, 18] [(0, pt r), (1, pt l), (2, nt who), (3, nt ref), (9, pt b4), (10, .bool ((getR rs ref).isSome)), (32, .bool false), (33, .pointer (some ⟨b4, 38, none⟩))] ?_
  refine Gc0 3 (.tmp 33) 38 (nt ((getA rs ref).backer)) (some 34) qhb4_9 rfl ?_
  refine Gs [12, 13, 14, 15, 16, 17, 18] [(0, pt r), (1, pt l), (2, nt who), (3, nt ref), (9, pt b4), (10, .bool ((getR rs ref).isSome)), (32, .bool false), (36, .bool (!(decide ((getA rs ref).backer = -1))))] ?_
  by_cases hg18 : (getA rs ref).backer = -1
  ·
   refine GI_eq [(0, pt r), (1, pt l), (2, nt who), (3, nt ref), (9, pt b4), (10, .bool ((getR rs ref).isSome)), (32, .bool false), (36, .bool false)] (by first | simp [hg18] | rfl) ?_
   refine Gs [] [(0, pt r), (1, pt l), (2, nt who), (3, nt ref), (9, pt b4), (10, .bool ((getR rs ref).isSome)), (11, .bool false), (12, .bool false)] ?_
   refine GI_end ?_
   refine X_then ?_
   refine V_seq ?_
   refine V_block ?_
   refine Vr ?_
   refine Os 3 [(0, pt r), (1, pt l), (2, nt who), (3, nt ref), (9, pt b4), (11, .bool false), (12, .bool false), (42, .bool (!((getR rs ref).isSome)))] ?_
   refine Oe ?_
   refine V_eq [(0, pt r), (1, pt l), (2, nt who), (3, nt ref), (9, pt b4), (11, .bool false), (12, .bool false), (42, .bool true)] (by rw [hx]; rfl) ?_
   refine V_true rfl ?_
   refine Vr ?_
   refine Os 1 [(8, nt 4)] ?_
   refine Oe ?_
   refine V_ret ?_
   refine X_ret_block ?_
   refine X_ret_then ?_
   have hE20 : rfdE rs who ref = 4 := by unfold rfdE; rw [hx]
   obtain ⟨h120, h220⟩ := rfd_no (xs := xs) (ts := ts) hE20 (by decide)
   exact X_return (nt 4) rfl ⟨by rw [hE20], ⟨H, G, (by rw [h220]; exact hR), (by rw [h120]; exact hl), hHr, hGr, hHG⟩, hK0⟩
  refine GI_eq [(0, pt r), (1, pt l), (2, nt who), (3, nt ref), (9, pt b4), (10, .bool ((getR rs ref).isSome)), (32, .bool false), (36, .bool true)] (by first | simp [hg18] | rfl) ?_
  refine Gs [13, 14, 15, 16, 17, 18] [(0, pt r), (1, pt l), (2, nt who), (3, nt ref), (9, pt b4), (10, .bool ((getR rs ref).isSome)), (32, .bool false), (36, .bool true), (37, .pointer (some ⟨b4, 38, none⟩))] ?_
  refine Gc0 3 (.tmp 37) 38 (nt ((getA rs ref).backer)) (some 38) qhb4_9 rfl ?_
  refine Gs [] [(0, pt r), (1, pt l), (2, nt who), (3, nt ref), (9, pt b4), (10, .bool ((getR rs ref).isSome)), (11, .bool false), (12, .bool (decide ((getA rs ref).backer = who)))] ?_
  refine GI_end ?_
  refine X_then ?_
  refine V_seq ?_
  refine V_block ?_
  refine Vr ?_
  refine Os 3 [(0, pt r), (1, pt l), (2, nt who), (3, nt ref), (9, pt b4), (11, .bool false), (12, .bool (decide ((getA rs ref).backer = who))), (42, .bool (!((getR rs ref).isSome)))] ?_
  refine Oe ?_
  refine V_eq [(0, pt r), (1, pt l), (2, nt who), (3, nt ref), (9, pt b4), (11, .bool false), (12, .bool (decide ((getA rs ref).backer = who))), (42, .bool true)] (by rw [hx]; rfl) ?_
  refine V_true rfl ?_
  refine Vr ?_
  refine Os 1 [(8, nt 4)] ?_
  refine Oe ?_
  refine V_ret ?_
  refine X_ret_block ?_
  refine X_ret_then ?_
  have hE22 : rfdE rs who ref = 4 := by unfold rfdE; rw [hx]
  obtain ⟨h122, h222⟩ := rfd_no (xs := xs) (ts := ts) hE22 (by decide)
  exact X_return (nt 4) rfl ⟨by rw [hE22], ⟨H, G, (by rw [h222]; exact hR), (by rw [h122]; exact hl), hHr, hGr, hHG⟩, hK0⟩
 refine GI_eq [(0, pt r), (1, pt l), (2, nt who), (3, nt ref), (9, pt b4), (10, .bool ((getR rs ref).isSome)), (27, .bool true)] (by first | rfl | rw [hg17]) ?_
 refine Gs [4, 5, 6, 7, 8, 9, 10, 11, 12, 13, 14, 15, 16, 17, 18] [(0, pt r), (1, pt l), (2, nt who), (3, nt ref), (9, pt b4), (10, .bool ((getR rs ref).isSome)), (27, .bool true), (28, .pointer (some ⟨b4, 36, none⟩))] ?_
 refine Gc0 3 (.tmp 28) 36 (nt ((getA rs ref).by_)) (some 29) qhb4_9 rfl ?_
 refine Gs [9, 10, 11, 12, 13, 14, 15, 16, 17, 18] [(0, pt r), (1, pt l), (2, nt who), (3, nt ref), (9, pt b4), (10, .bool ((getR rs ref).isSome)), (32, .bool (decide ((getA rs ref).by_ = who))), (33, .pointer (some ⟨b4, 38, none⟩))] ?_
 refine Gc0 3 (.tmp 33) 38 (nt ((getA rs ref).backer)) (some 34) qhb4_9 rfl ?_
 refine Gs [12, 13, 14, 15, 16, 17, 18] [(0, pt r), (1, pt l), (2, nt who), (3, nt ref), (9, pt b4), (10, .bool ((getR rs ref).isSome)), (32, .bool (decide ((getA rs ref).by_ = who))), (36, .bool (!(decide ((getA rs ref).backer = -1))))] ?_
 by_cases hg23 : (getA rs ref).backer = -1
 ·
  refine GI_eq [(0, pt r), (1, pt l), (2, nt who), (3, nt ref), (9, pt b4), (10, .bool ((getR rs ref).isSome)), (32, .bool (decide ((getA rs ref).by_ = who))), (36, .bool false)] (by first | simp [hg23] | rfl) ?_
  refine Gs [] [(0, pt r), (1, pt l), (2, nt who), (3, nt ref), (9, pt b4), (10, .bool ((getR rs ref).isSome)), (11, .bool (decide ((getA rs ref).by_ = who))), (12, .bool false)] ?_
  refine GI_end ?_
  refine X_then ?_
  refine V_seq ?_
  refine V_block ?_
  refine Vr ?_
  refine Os 3 [(0, pt r), (1, pt l), (2, nt who), (3, nt ref), (9, pt b4), (11, .bool (decide ((getA rs ref).by_ = who))), (12, .bool false), (42, .bool (!((getR rs ref).isSome)))] ?_
  refine Oe ?_
  refine V_eq [(0, pt r), (1, pt l), (2, nt who), (3, nt ref), (9, pt b4), (11, .bool (decide ((getA rs ref).by_ = who))), (12, .bool false), (42, .bool true)] (by rw [hx]; rfl) ?_
  refine V_true rfl ?_
  refine Vr ?_
  refine Os 1 [(8, nt 4)] ?_
  refine Oe ?_
  refine V_ret ?_
  refine X_ret_block ?_
  refine X_ret_then ?_
  have hE25 : rfdE rs who ref = 4 := by unfold rfdE; rw [hx]
  obtain ⟨h125, h225⟩ := rfd_no (xs := xs) (ts := ts) hE25 (by decide)
  exact X_return (nt 4) rfl ⟨by rw [hE25], ⟨H, G, (by rw [h225]; exact hR), (by rw [h125]; exact hl), hHr, hGr, hHG⟩, hK0⟩
 refine GI_eq [(0, pt r), (1, pt l), (2, nt who), (3, nt ref), (9, pt b4), (10, .bool ((getR rs ref).isSome)), (32, .bool (decide ((getA rs ref).by_ = who))), (36, .bool true)] (by first | simp [hg23] | rfl) ?_
 refine Gs [13, 14, 15, 16, 17, 18] [(0, pt r), (1, pt l), (2, nt who), (3, nt ref), (9, pt b4), (10, .bool ((getR rs ref).isSome)), (32, .bool (decide ((getA rs ref).by_ = who))), (36, .bool true), (37, .pointer (some ⟨b4, 38, none⟩))] ?_
 refine Gc0 3 (.tmp 37) 38 (nt ((getA rs ref).backer)) (some 38) qhb4_9 rfl ?_
 refine Gs [] [(0, pt r), (1, pt l), (2, nt who), (3, nt ref), (9, pt b4), (10, .bool ((getR rs ref).isSome)), (11, .bool (decide ((getA rs ref).by_ = who))), (12, .bool (decide ((getA rs ref).backer = who)))] ?_
 refine GI_end ?_
 refine X_then ?_
 refine V_seq ?_
 refine V_block ?_
 refine Vr ?_
 refine Os 3 [(0, pt r), (1, pt l), (2, nt who), (3, nt ref), (9, pt b4), (11, .bool (decide ((getA rs ref).by_ = who))), (12, .bool (decide ((getA rs ref).backer = who))), (42, .bool (!((getR rs ref).isSome)))] ?_
 refine Oe ?_
 refine V_eq [(0, pt r), (1, pt l), (2, nt who), (3, nt ref), (9, pt b4), (11, .bool (decide ((getA rs ref).by_ = who))), (12, .bool (decide ((getA rs ref).backer = who))), (42, .bool true)] (by rw [hx]; rfl) ?_
 refine V_true rfl ?_
 refine Vr ?_
 refine Os 1 [(8, nt 4)] ?_
 refine Oe ?_
 refine V_ret ?_
 refine X_ret_block ?_
 refine X_ret_then ?_
 have hE27 : rfdE rs who ref = 4 := by unfold rfdE; rw [hx]
 obtain ⟨h127, h227⟩ := rfd_no (xs := xs) (ts := ts) hE27 (by decide)
 exact X_return (nt 4) rfl ⟨by rw [hE27], ⟨H, G, (by rw [h227]; exact hR), (by rw [h127]; exact hl), hHr, hGr, hHG⟩, hK0⟩

set_option maxRecDepth 10000 in
set_option maxHeartbeats 1000000 in
theorem refund_at (H : Nat → Prop) (r g : Nat) (ts : List Trk) (rs : List Rfm) (G : Nat → Prop) (l : Nat) (xs : List Acc) (cs : List Ci) (who ref : Int) (w : World) (hR : Rfr H w r g ts rs) (hl : Led G w l xs cs) (hHG : ∀ q, H q → ¬ G q) (hx : getR rs ref = some (getA rs ref)) : Calls Tryz.prog 30 #[.pointer (some ⟨r, 0, none⟩), .pointer (some ⟨l, 0, none⟩), .int .i64 who, .int .i64 ref] w fun e w' => e = .returned (.int .i64 (rfdE rs who ref)) ∧ (∃ H' G', Rfr H' w' r g ts (rfdR rs who ref) ∧ Led G' w' l (rfdX xs ts rs who ref) cs ∧ (∀ q, H' q → H q ∨ w.heap.size ≤ q) ∧ (∀ q, G' q → G q ∨ w.heap.size ≤ q) ∧ (∀ q, H' q → ¬ G' q)) ∧ Keep (fun q => q = g ∨ G q) w w' := by
 have hHlt := Rfr.lt hR
 have hrH := Rfr.at_ hR
 have hgH := Rfr.atg hR
 have hrlt := hHlt _ hrH
 have hglt := hHlt _ hgH
 have hin := Rfr.inn hR
 obtain ⟨A, cap, hr, hA, hAo, hrg⟩ := Rfr.parts hR
 have hAlt := SlT.lt hA
 have hAr : ∀ q, inA A q → q ≠ r ∧ q ≠ g ∧ q < w.heap.size := fun q hq => ⟨(hAo q hq).2.1, (hAo q hq).2.2, hAlt q hq⟩
 have hgo : ∀ q, only g q → q ≠ r ∧ q = g := fun q hq => ⟨fun e => hrg (e.symm.trans hq), hq⟩
 have hgl : ∀ q, only g q → q < w.heap.size := fun q hq => by rw [show q = g from hq]; exact hglt
 have hHo : ∀ q, H q → 0 ≤ q := fun q _ => Nat.zero_le q
 have htl := hin.tl
 have hrl := hin.rl
 have hGlt := Led.lt hl
 have hllt := hGlt _ (Led.at_ hl)
 have hlr : ∀ q, G q → q ≠ r := fun q hq e => hHG r hrH (e ▸ hq)
 have hinv := Led.inv hl
 have hHr : ∀ q, H q → H q ∨ w.heap.size ≤ q := fun _ h => .inl h
 have hGr : ∀ q, G q → G q ∨ w.heap.size ≤ q := fun _ h => .inl h
 obtain ⟨href, htr, hrat⟩ := getA_at hin hx
 obtain ⟨jt, hjt, hjl, htk, htm⟩ := trkA_at htr
 have hokt := hin.tok _ htm
 have hdep : 0 ≤ (trkA ts (getA rs ref).track).deposit ∧ (trkA ts (getA rs ref).track).deposit ≤ 1073741824 := hokt.2.1
 have hK0 : Keep (fun q => q = g ∨ G q) w w := Keep.refl _ _
 have hzhK0 := Keep.size hK0
 refine enterV Tryz.func30 rfl [pt r, pt l, nt who, nt ref] 82 rfl rfl rfl ?_
 refine V_pick [(0, pt r), (1, pt l), (2, nt who), (3, nt ref)] rfl ?_
 refine Vr ?_
 refine Os 1 [(0, pt r), (1, pt l), (2, nt who), (3, nt ref)] ?_
 refine Oe ?_
 refine V_seq ?_
 refine Vr ?_
 refine Os 6 [(0, pt r), (1, pt l), (2, nt who), (3, nt ref), (18, .bool false)] ?_
 refine Oe ?_
 refine V_false rfl ?_
 refine V_skip ?_
 refine X_then ?_
 refine Vr ?_
 refine Os 2 [(0, pt r), (1, pt l), (2, nt who), (3, nt ref), (20, pt r), (21, nt ref)] ?_
 refine Ok { callee := (Callee.value (Operand.func 23)), args := #[(Operand.tmp 20), (Operand.tmp 21)], argTypes := #[34, 3] } 23 #[pt r, nt ref] (some 22) (rget_spec H r g ts rs ref _ hR) ?_
 rintro _ w1 ⟨rfl, hk2⟩
 refine ⟨_, rfl, ?_⟩
 have hsz3 := Keep.size hk2
 replace hr := hr.keep hk2 (fun f => f)
 replace hA := SlT.keep0 hA hk2
 replace hR := Rfr.keep hR hk2 (fun _ _ f => f)
 replace hl := Led.keep hl hk2 (fun _ _ f => f)
 replace hK0 := Keep.tr hK0 (Keep.ofNone hk2)
 refine Os 6 [(0, pt r), (1, pt l), (2, nt who), (3, nt ref), (23, .agg (Rfm.cells (getA rs ref)).toArray), (24, .bool ((getR rs ref).isSome))] ?_
 refine OI_alloc 57 (.agg (Rfm.cells Rfm.zero).toArray) (Rfm.cells Rfm.zero) (some 9) (by kernel_rfl) (by kernel_rfl) (by kernel_rfl) ?_
 intro b4 w4 e4 hb4 k4 z4
 have hsz5 := Keep.size k4
 replace hr := hr.keep k4 (fun f => f)
 replace hA := SlT.keep0 hA k4
 replace hR := Rfr.keep hR k4 (fun _ _ f => f)
 replace hl := Led.keep hl k4 (fun _ _ f => f)
 replace hK0 := Keep.tr hK0 (Keep.ofNone k4)
 have hb4lt := hb4.lt
 refine OI_set (m := 45) (kd := true) 57 (.tmp 9) (.tmp 23) 0 (.agg (Rfm.cells (getA rs ref)).toArray) (Rfm.cells (getA rs ref)) none (by kernel_rfl) (by kernel_rfl) (by kernel_rfl) hb4 (by kernel_rfl) rfl (Rfm.len _) (Nat.le_of_ble_eq_true (by kernel_rfl)) (Rfm.one _) ?_
 intro w6 hb4_9 hk7 hz8
 replace hb4_9 : Blk w6 b4 (Rfm.cells (getA rs ref)) 57 := (Blk.eqL (Rfm.over _ _) hb4_9)
 have hsz10 := Keep.size hk7
 replace hr := hr.keep hk7 (by show ¬ (_ = _); omega)
 replace hA := SlT.keep hA hk7 (fun q hq hs => by have hs : q = b4 := hs; have g0 := hAr q hq; have g1 := hAlt q hq; omega)
 replace hR := Rfr.keep hR hk7 (fun q hq hs => by have hs : q = b4 := hs; have g0 := hHo q hq; have g1 := hHlt q hq; omega)
 replace hl := Led.keep hl hk7 (fun q hq hs => by have hs : q = b4 := hs; have g0 := hlr q hq; have g1 := hGlt q hq; omega)
 replace hK0 := Keep.fresh hK0 hk7 (by intro i hi hs; first | exact hs | exact Or.inl hs | exact Or.inr hs | (exfalso; have hs2 : i = b4 := hs; omega))
 refine Os 9 [(0, pt r), (1, pt l), (2, nt who), (3, nt ref), (9, pt b4), (10, .bool ((getR rs ref).isSome))] ?_
 refine Oe ?_
 refine V_seq ?_
 refine V_draws (acts []) none_ [[0, 1, 2, 3, 4, 5, 6, 7, 8, 9, 10, 11, 12, 13, 14, 15, 16, 17, 18]] (by kernel_rfl) (by repeat first | exact sure_body (by rintro _ _ ⟨h, _⟩; exact ⟨_, h⟩) | refine sure_then ?_ | refine sure_block ?_ | refine sure_join ?_) (by kernel_rfl) ?_
 intro w12 hk11 he13 L hL14
 have hsz15 := Keep.size hk11
 replace hr := hr.keep hk11 (fun f => f)
 replace hb4_9 := hb4_9.keep hk11 (fun f => f)
 replace hA := SlT.keep0 hA hk11
 replace hR := Rfr.keep hR hk11 (fun _ _ f => f)
 replace hl := Led.keep hl hk11 (fun _ _ f => f)
 replace hK0 := Keep.tr hK0 (Keep.ofNone hk11)
 have qhr := hr
 have qhb4_9 := hb4_9
 have K16 : Keep none_ w12 w12 := Keep.refl _ _
 obtain rfl := List.mem_singleton.1 hL14
 refine Gs [1, 2, 3, 4, 5, 6, 7, 8, 9, 10, 11, 12, 13, 14, 15, 16, 17, 18] [(0, pt r), (1, pt l), (2, nt who), (3, nt ref), (9, pt b4), (10, .bool ((getR rs ref).isSome)), (25, .pointer (some ⟨b4, 37, none⟩))] ?_
 refine Gc0 4 (.tmp 25) 37 (.bool ((getA rs ref).put)) (some 26) qhb4_9 rfl ?_
 refine Gs [3, 4, 5, 6, 7, 8, 9, 10, 11, 12, 13, 14, 15, 16, 17, 18] [(0, pt r), (1, pt l), (2, nt who), (3, nt ref), (9, pt b4), (10, .bool ((getR rs ref).isSome)), (27, .bool ((getA rs ref).put))] ?_
 cases hg17 : ((getA rs ref).put)
 ·
  refine GI_eq [(0, pt r), (1, pt l), (2, nt who), (3, nt ref), (9, pt b4), (10, .bool ((getR rs ref).isSome)), (27, .bool false)] (by first | rfl | rw [hg17]) ?_
  refine Gs [9, 10, 11, 12, 13, 14, 15, 16, 17, 18] [(0, pt r), (1, pt l), (2, nt who), (3, nt ref), (9, pt b4), (10, .bool ((getR rs ref).isSome)), (32, .bool false), (33, .pointer (some ⟨b4, 38, none⟩))] ?_
  refine Gc0 3 (.tmp 33) 38 (nt ((getA rs ref).backer)) (some 34) qhb4_9 rfl ?_
  refine Gs [12, 13, 14, 15, 16, 17, 18] [(0, pt r), (1, pt l), (2, nt who), (3, nt ref), (9, pt b4), (10, .bool ((getR rs ref).isSome)), (32, .bool false), (36, .bool (!(decide ((getA rs ref).backer = -1))))] ?_
  by_cases hg18 : (getA rs ref).backer = -1
  ·
   refine GI_eq [(0, pt r), (1, pt l), (2, nt who), (3, nt ref), (9, pt b4), (10, .bool ((getR rs ref).isSome)), (32, .bool false), (36, .bool false)] (by first | simp [hg18] | rfl) ?_
   refine Gs [] [(0, pt r), (1, pt l), (2, nt who), (3, nt ref), (9, pt b4), (10, .bool ((getR rs ref).isSome)), (11, .bool false), (12, .bool false)] ?_
   refine GI_end ?_
   refine X_then ?_
   refine V_seq ?_
   refine V_block ?_
   refine Vr ?_
   refine Os 3 [(0, pt r), (1, pt l), (2, nt who), (3, nt ref), (9, pt b4), (11, .bool false), (12, .bool false), (42, .bool (!((getR rs ref).isSome)))] ?_
   refine Oe ?_
   refine V_eq [(0, pt r), (1, pt l), (2, nt who), (3, nt ref), (9, pt b4), (11, .bool false), (12, .bool false), (42, .bool false)] (by rw [hx]; rfl) ?_
   refine V_false rfl ?_
   refine Vr ?_
   refine Os 1 [(0, pt r), (1, pt l), (2, nt who), (3, nt ref), (9, pt b4), (11, .bool false), (12, .bool false), (46, pt b4)] ?_
   refine Oc 3 (.tmp 46) 0 (nt ((getA rs ref).state)) (some 47) hb4_9 rfl ?_
   refine Os 4 [(0, pt r), (1, pt l), (2, nt who), (3, nt ref), (9, pt b4), (11, .bool false), (12, .bool false), (45, .bool (decide ((getA rs ref).state = 1)))] ?_
   refine Oe ?_
   refine V_if ((getA rs ref).state = 1) (by kernel_rfl) (fun hc20 => ?_) (fun hc20 => ?_)
   ·
    refine Vr ?_
    refine Os 1 [(8, nt 9)] ?_
    refine Oe ?_
    refine V_ret ?_
    refine X_ret_block ?_
    refine X_ret_then ?_
    have hE21 : rfdE rs who ref = 9 := by rw [rfdE_at hx, if_pos hc20]
    obtain ⟨h121, h221⟩ := rfd_no (xs := xs) (ts := ts) hE21 (by decide)
    exact X_return (nt 9) rfl ⟨by rw [hE21], ⟨H, G, (by rw [h221]; exact hR), (by rw [h121]; exact hl), hHr, hGr, hHG⟩, hK0⟩
   refine Vr ?_
   refine Os 7 [(0, pt r), (1, pt l), (2, nt who), (3, nt ref), (9, pt b4), (11, .bool false), (12, .bool false), (49, .bool true)] ?_
   refine Oe ?_
   refine V_true rfl ?_
   refine Vr ?_
   refine Os 1 [(8, nt 8)] ?_
   refine Oe ?_
   refine V_ret ?_
   refine X_ret_block ?_
   refine X_ret_then ?_
   have hputB22 : putB (getA rs ref) who = false := by unfold putB; rw [hg17]; rfl
   have hbakB22 : bakB (getA rs ref) who = false := by unfold bakB; rw [decide_eq_false (show ¬ ((getA rs ref).backer ≠ -1) from fun h => h hg18)]; rfl
   have hE22 : rfdE rs who ref = 8 := by rw [rfdE_at hx, if_neg hc20, hputB22, hbakB22]; rfl
   obtain ⟨h122, h222⟩ := rfd_no (xs := xs) (ts := ts) hE22 (by decide)
   exact X_return (nt 8) rfl ⟨by rw [hE22], ⟨H, G, (by rw [h222]; exact hR), (by rw [h122]; exact hl), hHr, hGr, hHG⟩, hK0⟩
  refine GI_eq [(0, pt r), (1, pt l), (2, nt who), (3, nt ref), (9, pt b4), (10, .bool ((getR rs ref).isSome)), (32, .bool false), (36, .bool true)] (by first | simp [hg18] | rfl) ?_
  refine Gs [13, 14, 15, 16, 17, 18] [(0, pt r), (1, pt l), (2, nt who), (3, nt ref), (9, pt b4), (10, .bool ((getR rs ref).isSome)), (32, .bool false), (36, .bool true), (37, .pointer (some ⟨b4, 38, none⟩))] ?_
  refine Gc0 3 (.tmp 37) 38 (nt ((getA rs ref).backer)) (some 38) qhb4_9 rfl ?_
  refine Gs [] [(0, pt r), (1, pt l), (2, nt who), (3, nt ref), (9, pt b4), (10, .bool ((getR rs ref).isSome)), (11, .bool false), (12, .bool (decide ((getA rs ref).backer = who)))] ?_
  refine GI_end ?_
  refine X_then ?_
  refine V_seq ?_
  refine V_block ?_
  refine Vr ?_
  refine Os 3 [(0, pt r), (1, pt l), (2, nt who), (3, nt ref), (9, pt b4), (11, .bool false), (12, .bool (decide ((getA rs ref).backer = who))), (42, .bool (!((getR rs ref).isSome)))] ?_
  refine Oe ?_
  refine V_eq [(0, pt r), (1, pt l), (2, nt who), (3, nt ref), (9, pt b4), (11, .bool false), (12, .bool (decide ((getA rs ref).backer = who))), (42, .bool false)] (by rw [hx]; rfl) ?_
  refine V_false rfl ?_
  refine Vr ?_
  refine Os 1 [(0, pt r), (1, pt l), (2, nt who), (3, nt ref), (9, pt b4), (11, .bool false), (12, .bool (decide ((getA rs ref).backer = who))), (46, pt b4)] ?_
  refine Oc 3 (.tmp 46) 0 (nt ((getA rs ref).state)) (some 47) hb4_9 rfl ?_
  refine Os 4 [(0, pt r), (1, pt l), (2, nt who), (3, nt ref), (9, pt b4), (11, .bool false), (12, .bool (decide ((getA rs ref).backer = who))), (45, .bool (decide ((getA rs ref).state = 1)))] ?_
  refine Oe ?_
  refine V_if ((getA rs ref).state = 1) (by kernel_rfl) (fun hc24 => ?_) (fun hc24 => ?_)
  ·
   refine Vr ?_
   refine Os 1 [(8, nt 9)] ?_
   refine Oe ?_
   refine V_ret ?_
   refine X_ret_block ?_
   refine X_ret_then ?_
   have hE25 : rfdE rs who ref = 9 := by rw [rfdE_at hx, if_pos hc24]
   obtain ⟨h125, h225⟩ := rfd_no (xs := xs) (ts := ts) hE25 (by decide)
   exact X_return (nt 9) rfl ⟨by rw [hE25], ⟨H, G, (by rw [h225]; exact hR), (by rw [h125]; exact hl), hHr, hGr, hHG⟩, hK0⟩
  refine Vr ?_
  refine Os 7 [(0, pt r), (1, pt l), (2, nt who), (3, nt ref), (9, pt b4), (11, .bool false), (12, .bool (decide ((getA rs ref).backer = who))), (49, .bool (!(decide ((getA rs ref).backer = who))))] ?_
  refine Oe ?_
  refine V_not ((getA rs ref).backer = who) (by kernel_rfl) (fun hc26 => ?_) (fun hc26 => ?_)
  ·
   refine Vr ?_
   refine Os 1 [(8, nt 8)] ?_
   refine Oe ?_
   refine V_ret ?_
   refine X_ret_block ?_
   refine X_ret_then ?_
   have hputB27 : putB (getA rs ref) who = false := by unfold putB; rw [hg17]; rfl
   have hbakB27 : bakB (getA rs ref) who = false := by unfold bakB; rw [decide_eq_false hc26, Bool.and_false]
   have hE27 : rfdE rs who ref = 8 := by rw [rfdE_at hx, if_neg hc24, hputB27, hbakB27]; rfl
   obtain ⟨h127, h227⟩ := rfd_no (xs := xs) (ts := ts) hE27 (by decide)
   exact X_return (nt 8) rfl ⟨by rw [hE27], ⟨H, G, (by rw [h227]; exact hR), (by rw [h127]; exact hl), hHr, hGr, hHG⟩, hK0⟩
  refine V_skip ?_
  refine X_block ?_
  refine X_then ?_
  refine V_seq ?_
  refine Vr ?_
  refine Os 1 [(0, pt r), (1, pt l), (2, nt who), (3, nt ref), (9, pt b4), (12, .bool (decide ((getA rs ref).backer = who))), (56, .bool false)] ?_
  refine Oe ?_
  refine V_false rfl ?_
  refine V_skip ?_
  refine X_then ?_
  refine V_seq ?_
  refine Vr ?_
  refine Os 1 [(0, pt r), (1, pt l), (2, nt who), (3, nt ref), (9, pt b4), (61, .bool (decide ((getA rs ref).backer = who)))] ?_
  refine Oe ?_
  refine V_eq [(0, pt r), (1, pt l), (2, nt who), (3, nt ref), (9, pt b4), (61, .bool true)] (by rw [decide_eq_true hc26]) ?_
  refine V_true rfl ?_
  refine V_seq ?_
  refine V_draws (acts [11]) none_ [[0, 1, 2, 3, 4, 5, 6, 7, 8, 9, 10, 11]] (by kernel_rfl) (by repeat first | exact sure_body (by rintro _ _ ⟨h, _⟩; exact ⟨_, h⟩) | refine sure_then ?_ | refine sure_block ?_ | refine sure_join ?_) (by kernel_rfl) ?_
  intro w30 hk29 he31 L hL32
  have hsz33 := Keep.size hk29
  replace hr := hr.keep hk29 (fun f => f)
  replace hb4_9 := hb4_9.keep hk29 (fun f => f)
  replace hA := SlT.keep0 hA hk29
  replace hR := Rfr.keep hR hk29 (fun _ _ f => f)
  replace hl := Led.keep hl hk29 (fun _ _ f => f)
  replace hK0 := Keep.tr hK0 (Keep.ofNone hk29)
  have qhr := hr
  have qhb4_9 := hb4_9
  have K34 : Keep none_ w30 w30 := Keep.refl _ _
  obtain rfl := List.mem_singleton.1 hL32
  refine Gs [5, 6, 7, 8, 9, 10, 11] [(0, pt r), (3, nt ref), (9, pt b4), (62, pt l), (63, nt who), (66, pt r)] ?_
  refine Gc0 29 (.tmp 66) 0 (.slice A ts.length cap) (some 67) qhr rfl ?_
  refine Gs [7, 8, 9, 10, 11] [(0, pt r), (3, nt ref), (9, pt b4), (62, pt l), (63, nt who), (67, .slice A ts.length cap), (68, .pointer (some ⟨b4, 1, none⟩))] ?_
  refine Gc0 3 (.tmp 68) 1 (nt ((getA rs ref).track)) (some 69) qhb4_9 rfl ?_
  obtain ⟨b35, o35, L35, T35, rfl, hat35⟩ := SlT.open_ hA (by first | omega | (simp only [List.length_map]; omega) | (simp; done) | (simp; omega))
  have hb35lt := hat35.blk.lt
  have hob36 := hAr b35 ⟨_, rfl, rfl⟩
  have hob37 := hAlt b35 ⟨_, rfl, rfl⟩
  have hne38 : ∀ q, G q → q ≠ b35 := fun q hq hs => (fun q h1 h2 => hHG q (hAo q h2).1 h1) q hq ⟨_, rfl, hs⟩
  have own39 := fun q hq => And.intro (hlr q hq) (hne38 q hq)
  refine Gp_ [(0, pt r), (3, nt ref), (9, pt b4), (62, pt l), (63, nt who), (67, .slice (some ⟨b35, o35, none⟩) ts.length cap), (69, nt ((getA rs ref).track))] ?_
  refine GI_eq [(0, pt r), (3, nt ref), (9, pt b4), (62, pt l), (63, nt who), (67, .slice (some ⟨b35, o35, none⟩) ts.length cap), (69, nt ((jt : Nat) : Int))] (by rw [hjt]) ?_
  refine GI_pure (some 70) (.indexAddr 29 (.tmp 67) (.tmp 69)) (by kernel_rfl) (by kernel_rfl) (pure_idxN (b := b35) (o := o35) (len := ts.length) (cap := cap) (kd := .i64) (j := jt) (E := 27) (sz := 18) (by_ := 144) (by kernel_rfl) (by kernel_rfl) (by kernel_rfl) (by omega)) ?_
  refine Gs [10, 11] [(0, pt r), (3, nt ref), (9, pt b4), (62, pt l), (63, nt who), (71, .pointer (some ⟨b35, o35 + jt * 18 + 1, none⟩))] ?_
  refine Gc0 3 (.tmp 71) (o35 + jt * 18 + 1) (nt ((trkA ts (getA rs ref).track).deposit)) (some 72) hat35.blk (At.cell hat35 (es_at htk) rfl) ?_
  refine GI_final 11 (by kernel_rfl) (by kernel_rfl) ?_
  refine Ok { callee := (Callee.value (Operand.func 61)), args := #[(Operand.tmp 62), (Operand.tmp 63), (Operand.tmp 72)], argTypes := #[32, 3, 3] } 61 #[pt l, nt who, nt ((trkA ts (getA rs ref).track).deposit)] (some 73) (release_spec G l xs cs who ((trkA ts (getA rs ref).track).deposit) _ hl) ?_
  rintro _ w42 ⟨rfl, ⟨F44, ho45, hfr46⟩, hk43⟩
  refine ⟨_, rfl, ?_⟩
  have hsz47 := Keep.size hk43
  replace hr := hr.keep hk43 (fun hs => by have h1 := own39 _ hs; have h2 := hGlt _ hs; omega)
  replace hb4_9 := hb4_9.keep hk43 (fun hs => by have h1 := own39 _ hs; have h2 := hGlt _ hs; omega)
  replace hat35 := hat35.keep hk43 (fun hs => by have h1 := own39 _ hs; have h2 := hGlt _ hs; omega)
  replace hR := Rfr.keep hR hk43 (fun q hq hs => (fun q h1 h2 => hHG q h2 h1) q hs hq)
  replace hK0 := Keep.fresh hK0 hk43 (fun i hi hs => by rcases hGr i hs with h | h; exact .inr <| h; (exfalso; omega))
  have own49 : ∀ q, F44 q → q ≠ r ∧ q ≠ r ∧ q ≠ b4 := fun q hq => by rcases hfr46 q hq with h | h; (have h1 := own39 q h; have h2 := hGlt q h; omega); omega
  have lt48 := Led.lt ho45
  have rel50 : ∀ q, F44 q → G q ∨ w.heap.size ≤ q := fun q hq => by rcases hfr46 q hq with h | h; exact hGr q h; exact .inr (by omega)
  have dis51 : ∀ q, F44 q → ¬ H q := fun q h1 h2 => by rcases hfr46 q h1 with h | h; exact (fun q h1 h2 => hHG q h2 h1) q h h2; (have h4 := hHlt q h2; omega)
  refine Oe ?_
  refine V_region ?_
  refine Os 1 [(0, pt r), (3, nt ref), (9, pt b4), (74, .pointer (some ⟨b4, 38, none⟩))] ?_
  refine OI_set (m := 1) (kd := false) 3 (.tmp 74) (.const (Value.int IntKind.i64 (-1))) 38 (nt (-1)) [nt (-1)] none (by kernel_rfl) (by kernel_rfl) (by kernel_rfl) hb4_9 (by kernel_rfl) (by kernel_rfl) (by kernel_rfl) (Nat.le_of_ble_eq_true (by kernel_rfl)) (by simp [Value.oneCell']) ?_
  intro w52 hb4_55 hk53 hz54
  replace hb4_55 : Blk w52 b4 (Rfm.cells { (getA rs ref) with backer := -1 }) 57 := (Blk.eqL (by kernel_rfl) hb4_55)
  have hsz56 := Keep.size hk53
  replace hr := hr.keep hk53 (by show ¬ (_ = _); omega)
  replace hat35 := hat35.keep hk53 (by show ¬ (_ = _); omega)
  replace hR := Rfr.keep hR hk53 (fun q hq hs => by have hs : q = b4 := hs; have g0 := hHo q hq; have g1 := hHlt q hq; omega)
  replace hK0 := Keep.fresh hK0 hk53 (by intro i hi hs; first | exact hs | exact Or.inl hs | exact Or.inr hs | (exfalso; have hs2 : i = b4 := hs; omega))
  replace ho45 := Led.keep ho45 hk53 (fun q hq hs => by have hs : q = b4 := hs; have g0 := own49 q hq; have g1 := lt48 q hq; omega)
  refine Oe ?_
  refine V_seq ?_
  refine V_draws (acts [6]) none_ [[0, 1, 2, 3, 4, 5, 6]] (by kernel_rfl) (by repeat first | exact sure_body (by rintro _ _ ⟨h, _⟩; exact ⟨_, h⟩) | refine sure_then ?_ | refine sure_block ?_ | refine sure_join ?_) (by kernel_rfl) ?_
  intro w58 hk57 he59 L hL60
  have hsz61 := Keep.size hk57
  replace hr := hr.keep hk57 (fun f => f)
  replace hb4_55 := hb4_55.keep hk57 (fun f => f)
  replace hat35 := hat35.keep hk57 (fun f => f)
  replace hR := Rfr.keep hR hk57 (fun _ _ f => f)
  replace hK0 := Keep.tr hK0 (Keep.ofNone hk57)
  replace ho45 := Led.keep ho45 hk57 (fun _ _ f => f)
  have qhr := hr
  have qhb4_55 := hb4_55
  have qhat35 := hat35
  have K62 : Keep none_ w58 w58 := Keep.refl _ _
  obtain rfl := List.mem_singleton.1 hL60
  refine Gs [3, 4, 5, 6] [(3, nt ref), (9, pt b4), (77, .pointer (some ⟨r, 1, none⟩))] ?_
  refine Gc0 95 (.tmp 77) 1 (pt g) (some 78) qhr rfl ?_
  refine Gs [5, 6] [(9, pt b4), (78, pt g), (79, nt ref)] ?_
  refine Ga 57 (.tmp 9) 0 (Rfm.cells { (getA rs ref) with backer := -1 }) (some 80) 45 qhb4_55 (fun f => f) (take_all (Rfm.len _)) (Rfm.len _) ?_
  refine GI_final 6 (by kernel_rfl) (by kernel_rfl) ?_
  refine Ok { callee := (Callee.value (Operand.func 45)), args := #[(Operand.tmp 78), (Operand.const (Value.int IntKind.i64 0)), (Operand.tmp 79), (Operand.tmp 80)], argTypes := #[95, 3, 3, 57] } 45 #[pt g, nt 0, nt ref, .agg (Rfm.cells { (getA rs ref) with backer := -1 }).toArray] (some 81) (rset_spec H r g ts rs ref ({ (getA rs ref) with backer := -1 }) _ hR href htr) ?_
  rintro _ w65 ⟨rfl, ⟨H67, hR68, hfr69⟩, hk66⟩
  refine ⟨_, rfl, ?_⟩
  have hsz70 := Keep.size hk66
  replace hr := hr.keep hk66 (fun hs => by have h1 := hgo _ hs; have h2 := hgl _ hs; omega)
  replace hb4_55 := hb4_55.keep hk66 (fun hs => by have h1 := hgo _ hs; have h2 := hgl _ hs; omega)
  replace hat35 := hat35.keep hk66 (fun hs => by have h1 := hgo _ hs; have h2 := hgl _ hs; omega)
  replace hK0 := Keep.fresh hK0 hk66 (by intro i hi hs; first | exact hs | (exfalso; have h1 := hgo i hs; have h2 := hgl i hs; omega) | (have h1 := hgo i hs; have h2 := hgl i hs; show _ ∨ _; omega))
  replace ho45 := Led.keep ho45 hk66 (fun q hq hs => (fun q h1 h2 => (fun q h1 h2 => dis51 q h2 h1) q (by rw [show q = g from h1]; exact hgH) h2) q hs hq)
  have own72 : ∀ q, H67 q → 0 ≤ q ∧ q ≠ b4 := fun q hq => by rcases hfr69 q hq with h | h; (have h1 := hHo q h; have h2 := hHlt q h; omega); omega
  have lt71 := Rfr.lt hR68
  have rel73 : ∀ q, H67 q → H q ∨ w.heap.size ≤ q := fun q hq => by rcases hfr69 q hq with h | h; exact hHr q h; exact .inr (by omega)
  have dis74 : ∀ q, H67 q → ¬ F44 q := fun q h1 h2 => by rcases hfr69 q h1 with h | h; exact (fun q h1 h2 => dis51 q h2 h1) q h h2; (have h4 := lt48 q h2; omega)
  refine Oer ?_
  refine Os 1 [(8, nt 0)] ?_
  refine Oe ?_
  refine V_ret ?_
  have hputB75 : putB (getA rs ref) who = false := by unfold putB; rw [hg17]; rfl
  have hbakB75 : bakB (getA rs ref) who = true := by unfold bakB; rw [decide_eq_true (show (getA rs ref).backer ≠ -1 from hg18), decide_eq_true hc26]; rfl
  have hE75 : rfdE rs who ref = 0 := by rw [rfdE_at hx, if_neg hc24, hputB75, hbakB75]; rfl
  obtain ⟨h175, h275⟩ := rfd_go (xs := xs) (ts := ts) hE75
  have h375 : rfdX xs ts rs who ref = (relX xs who ((trkA ts (getA rs ref).track).deposit)) := by rw [h175]; unfold rfdX2 rfdX1; rw [hputB75, hbakB75]; rfl
  have h475 : rfdR rs who ref = (rs.set ref.toNat ({ (getA rs ref) with backer := -1 })) := by rw [h275]; unfold rfdY; rw [hputB75, hbakB75]; rfl
  exact X_return (nt 0) rfl ⟨by rw [hE75], ⟨H67, F44, (by rw [h475]; exact hR68), (by rw [h375]; exact ho45), rel73, rel50, dis74⟩, hK0⟩
 refine GI_eq [(0, pt r), (1, pt l), (2, nt who), (3, nt ref), (9, pt b4), (10, .bool ((getR rs ref).isSome)), (27, .bool true)] (by first | rfl | rw [hg17]) ?_
 refine Gs [4, 5, 6, 7, 8, 9, 10, 11, 12, 13, 14, 15, 16, 17, 18] [(0, pt r), (1, pt l), (2, nt who), (3, nt ref), (9, pt b4), (10, .bool ((getR rs ref).isSome)), (27, .bool true), (28, .pointer (some ⟨b4, 36, none⟩))] ?_
 refine Gc0 3 (.tmp 28) 36 (nt ((getA rs ref).by_)) (some 29) qhb4_9 rfl ?_
 refine Gs [9, 10, 11, 12, 13, 14, 15, 16, 17, 18] [(0, pt r), (1, pt l), (2, nt who), (3, nt ref), (9, pt b4), (10, .bool ((getR rs ref).isSome)), (32, .bool (decide ((getA rs ref).by_ = who))), (33, .pointer (some ⟨b4, 38, none⟩))] ?_
 refine Gc0 3 (.tmp 33) 38 (nt ((getA rs ref).backer)) (some 34) qhb4_9 rfl ?_
 refine Gs [12, 13, 14, 15, 16, 17, 18] [(0, pt r), (1, pt l), (2, nt who), (3, nt ref), (9, pt b4), (10, .bool ((getR rs ref).isSome)), (32, .bool (decide ((getA rs ref).by_ = who))), (36, .bool (!(decide ((getA rs ref).backer = -1))))] ?_
 by_cases hg76 : (getA rs ref).backer = -1
 ·
  refine GI_eq [(0, pt r), (1, pt l), (2, nt who), (3, nt ref), (9, pt b4), (10, .bool ((getR rs ref).isSome)), (32, .bool (decide ((getA rs ref).by_ = who))), (36, .bool false)] (by first | simp [hg76] | rfl) ?_
  refine Gs [] [(0, pt r), (1, pt l), (2, nt who), (3, nt ref), (9, pt b4), (10, .bool ((getR rs ref).isSome)), (11, .bool (decide ((getA rs ref).by_ = who))), (12, .bool false)] ?_
  refine GI_end ?_
  refine X_then ?_
  refine V_seq ?_
  refine V_block ?_
  refine Vr ?_
  refine Os 3 [(0, pt r), (1, pt l), (2, nt who), (3, nt ref), (9, pt b4), (11, .bool (decide ((getA rs ref).by_ = who))), (12, .bool false), (42, .bool (!((getR rs ref).isSome)))] ?_
  refine Oe ?_
  refine V_eq [(0, pt r), (1, pt l), (2, nt who), (3, nt ref), (9, pt b4), (11, .bool (decide ((getA rs ref).by_ = who))), (12, .bool false), (42, .bool false)] (by rw [hx]; rfl) ?_
  refine V_false rfl ?_
  refine Vr ?_
  refine Os 1 [(0, pt r), (1, pt l), (2, nt who), (3, nt ref), (9, pt b4), (11, .bool (decide ((getA rs ref).by_ = who))), (12, .bool false), (46, pt b4)] ?_
  refine Oc 3 (.tmp 46) 0 (nt ((getA rs ref).state)) (some 47) hb4_9 rfl ?_
  refine Os 4 [(0, pt r), (1, pt l), (2, nt who), (3, nt ref), (9, pt b4), (11, .bool (decide ((getA rs ref).by_ = who))), (12, .bool false), (45, .bool (decide ((getA rs ref).state = 1)))] ?_
  refine Oe ?_
  refine V_if ((getA rs ref).state = 1) (by kernel_rfl) (fun hc78 => ?_) (fun hc78 => ?_)
  ·
   refine Vr ?_
   refine Os 1 [(8, nt 9)] ?_
   refine Oe ?_
   refine V_ret ?_
   refine X_ret_block ?_
   refine X_ret_then ?_
   have hE79 : rfdE rs who ref = 9 := by rw [rfdE_at hx, if_pos hc78]
   obtain ⟨h179, h279⟩ := rfd_no (xs := xs) (ts := ts) hE79 (by decide)
   exact X_return (nt 9) rfl ⟨by rw [hE79], ⟨H, G, (by rw [h279]; exact hR), (by rw [h179]; exact hl), hHr, hGr, hHG⟩, hK0⟩
  refine Vr ?_
  refine Os 3 [(0, pt r), (1, pt l), (2, nt who), (3, nt ref), (9, pt b4), (11, .bool (decide ((getA rs ref).by_ = who))), (12, .bool false), (52, .bool (!(decide ((getA rs ref).by_ = who))))] ?_
  by_cases hg80 : (getA rs ref).by_ = who
  ·
   refine OI_eq [(0, pt r), (1, pt l), (2, nt who), (3, nt ref), (9, pt b4), (11, .bool (decide ((getA rs ref).by_ = who))), (12, .bool false), (52, .bool false)] (by first | simp [hg80] | rfl) ?_
   refine Os 7 [(0, pt r), (1, pt l), (2, nt who), (3, nt ref), (9, pt b4), (11, .bool (decide ((getA rs ref).by_ = who))), (12, .bool false), (49, .bool false)] ?_
   refine Oe ?_
   refine V_false rfl ?_
   refine V_skip ?_
   refine X_block ?_
   refine X_then ?_
   refine V_seq ?_
   refine Vr ?_
   refine Os 1 [(0, pt r), (1, pt l), (2, nt who), (3, nt ref), (9, pt b4), (12, .bool false), (56, .bool (decide ((getA rs ref).by_ = who)))] ?_
   refine Oe ?_
   refine V_eq [(0, pt r), (1, pt l), (2, nt who), (3, nt ref), (9, pt b4), (12, .bool false), (56, .bool true)] (by rw [decide_eq_true hg80]) ?_
   refine V_true rfl ?_
   refine Vr ?_
   refine Os 2 [(0, pt r), (1, pt l), (2, nt who), (3, nt ref), (9, pt b4), (12, .bool false), (57, pt l), (58, nt who)] ?_
   refine Ok { callee := (Callee.value (Operand.func 61)), args := #[(Operand.tmp 57), (Operand.tmp 58), (Operand.const (Value.int IntKind.i64 10))], argTypes := #[32, 3, 3] } 61 #[pt l, nt who, nt 10] (some 59) (release_spec G l xs cs who 10 _ hl) ?_
   rintro _ w84 ⟨rfl, ⟨F86, ho87, hfr88⟩, hk85⟩
   refine ⟨_, rfl, ?_⟩
   have hsz89 := Keep.size hk85
   replace hr := hr.keep hk85 (fun hs => by have h1 := hlr _ hs; have h2 := hGlt _ hs; omega)
   replace hb4_9 := hb4_9.keep hk85 (fun hs => by have h1 := hlr _ hs; have h2 := hGlt _ hs; omega)
   replace hA := SlT.keep hA hk85 (fun q hq hs => (fun q h1 h2 => hHG q (hAo q h2).1 h1) q hs hq)
   replace hR := Rfr.keep hR hk85 (fun q hq hs => (fun q h1 h2 => hHG q h2 h1) q hs hq)
   replace hK0 := Keep.fresh hK0 hk85 (fun i hi hs => by rcases hGr i hs with h | h; exact .inr <| h; (exfalso; omega))
   have own91 : ∀ q, F86 q → q ≠ r ∧ q ≠ r ∧ q ≠ b4 := fun q hq => by rcases hfr88 q hq with h | h; (have h1 := hlr q h; have h2 := hGlt q h; omega); omega
   have lt90 := Led.lt ho87
   have rel92 : ∀ q, F86 q → G q ∨ w.heap.size ≤ q := fun q hq => by rcases hfr88 q hq with h | h; exact hGr q h; exact .inr (by omega)
   have dis93 : ∀ q, F86 q → ¬ inA A q := fun q h1 h2 => by rcases hfr88 q h1 with h | h; exact (fun q h1 h2 => hHG q (hAo q h2).1 h1) q h h2; (have h4 := hAlt q h2; omega)
   have dis94 : ∀ q, F86 q → ¬ H q := fun q h1 h2 => by rcases hfr88 q h1 with h | h; exact (fun q h1 h2 => hHG q h2 h1) q h h2; (have h4 := hHlt q h2; omega)
   refine Oe ?_
   refine V_region ?_
   refine Os 1 [(0, pt r), (1, pt l), (2, nt who), (3, nt ref), (9, pt b4), (12, .bool false), (60, .pointer (some ⟨b4, 37, none⟩))] ?_
   refine OI_set (m := 1) (kd := false) 4 (.tmp 60) (.const (Value.bool false)) 37 (.bool false) [.bool false] none (by kernel_rfl) (by kernel_rfl) (by kernel_rfl) hb4_9 (by kernel_rfl) (by kernel_rfl) (by kernel_rfl) (Nat.le_of_ble_eq_true (by kernel_rfl)) (by simp [Value.oneCell']) ?_
   intro w95 hb4_98 hk96 hz97
   replace hb4_98 : Blk w95 b4 (Rfm.cells { (getA rs ref) with put := false }) 57 := (Blk.eqL (by kernel_rfl) hb4_98)
   have hsz99 := Keep.size hk96
   replace hr := hr.keep hk96 (by show ¬ (_ = _); omega)
   replace hA := SlT.keep hA hk96 (fun q hq hs => by have hs : q = b4 := hs; have g0 := hAr q hq; have g1 := hAlt q hq; omega)
   replace hR := Rfr.keep hR hk96 (fun q hq hs => by have hs : q = b4 := hs; have g0 := hHo q hq; have g1 := hHlt q hq; omega)
   replace hK0 := Keep.fresh hK0 hk96 (by intro i hi hs; first | exact hs | exact Or.inl hs | exact Or.inr hs | (exfalso; have hs2 : i = b4 := hs; omega))
   replace ho87 := Led.keep ho87 hk96 (fun q hq hs => by have hs : q = b4 := hs; have g0 := own91 q hq; have g1 := lt90 q hq; omega)
   refine Oe ?_
   refine V_seq ?_
   refine Vr ?_
   refine Os 1 [(0, pt r), (1, pt l), (2, nt who), (3, nt ref), (9, pt b4), (61, .bool false)] ?_
   refine Oe ?_
   refine V_false rfl ?_
   refine V_skip ?_
   refine X_then ?_
   refine V_seq ?_
   refine V_draws (acts [6]) none_ [[0, 1, 2, 3, 4, 5, 6]] (by kernel_rfl) (by repeat first | exact sure_body (by rintro _ _ ⟨h, _⟩; exact ⟨_, h⟩) | refine sure_then ?_ | refine sure_block ?_ | refine sure_join ?_) (by kernel_rfl) ?_
   intro w101 hk100 he102 L hL103
   have hsz104 := Keep.size hk100
   replace hr := hr.keep hk100 (fun f => f)
   replace hb4_98 := hb4_98.keep hk100 (fun f => f)
   replace hA := SlT.keep0 hA hk100
   replace hR := Rfr.keep hR hk100 (fun _ _ f => f)
   replace hK0 := Keep.tr hK0 (Keep.ofNone hk100)
   replace ho87 := Led.keep ho87 hk100 (fun _ _ f => f)
   have qhr := hr
   have qhb4_98 := hb4_98
   have K105 : Keep none_ w101 w101 := Keep.refl _ _
   obtain rfl := List.mem_singleton.1 hL103
   refine Gs [3, 4, 5, 6] [(3, nt ref), (9, pt b4), (77, .pointer (some ⟨r, 1, none⟩))] ?_
   refine Gc0 95 (.tmp 77) 1 (pt g) (some 78) qhr rfl ?_
   refine Gs [5, 6] [(9, pt b4), (78, pt g), (79, nt ref)] ?_
   refine Ga 57 (.tmp 9) 0 (Rfm.cells { (getA rs ref) with put := false }) (some 80) 45 qhb4_98 (fun f => f) (take_all (Rfm.len _)) (Rfm.len _) ?_
   refine GI_final 6 (by kernel_rfl) (by kernel_rfl) ?_
   refine Ok { callee := (Callee.value (Operand.func 45)), args := #[(Operand.tmp 78), (Operand.const (Value.int IntKind.i64 0)), (Operand.tmp 79), (Operand.tmp 80)], argTypes := #[95, 3, 3, 57] } 45 #[pt g, nt 0, nt ref, .agg (Rfm.cells { (getA rs ref) with put := false }).toArray] (some 81) (rset_spec H r g ts rs ref ({ (getA rs ref) with put := false }) _ hR href htr) ?_
   rintro _ w108 ⟨rfl, ⟨H110, hR111, hfr112⟩, hk109⟩
   refine ⟨_, rfl, ?_⟩
   have hsz113 := Keep.size hk109
   replace hr := hr.keep hk109 (fun hs => by have h1 := hgo _ hs; have h2 := hgl _ hs; omega)
   replace hb4_98 := hb4_98.keep hk109 (fun hs => by have h1 := hgo _ hs; have h2 := hgl _ hs; omega)
   replace hA := SlT.keep hA hk109 (fun q hq hs => (fun q h1 h2 => (hAo q h2).2.2 h1) q hs hq)
   replace hK0 := Keep.fresh hK0 hk109 (by intro i hi hs; first | exact hs | (exfalso; have h1 := hgo i hs; have h2 := hgl i hs; omega) | (have h1 := hgo i hs; have h2 := hgl i hs; show _ ∨ _; omega))
   replace ho87 := Led.keep ho87 hk109 (fun q hq hs => (fun q h1 h2 => (fun q h1 h2 => dis94 q h2 h1) q (by rw [show q = g from h1]; exact hgH) h2) q hs hq)
   have own115 : ∀ q, H110 q → 0 ≤ q ∧ q ≠ b4 := fun q hq => by rcases hfr112 q hq with h | h; (have h1 := hHo q h; have h2 := hHlt q h; omega); omega
   have lt114 := Rfr.lt hR111
   have rel116 : ∀ q, H110 q → H q ∨ w.heap.size ≤ q := fun q hq => by rcases hfr112 q hq with h | h; exact hHr q h; exact .inr (by omega)
   have dis117 : ∀ q, H110 q → ¬ F86 q := fun q h1 h2 => by rcases hfr112 q h1 with h | h; exact (fun q h1 h2 => dis94 q h2 h1) q h h2; (have h4 := lt90 q h2; omega)
   refine Oer ?_
   refine Os 1 [(8, nt 0)] ?_
   refine Oe ?_
   refine V_ret ?_
   have hputB118 : putB (getA rs ref) who = true := by unfold putB; rw [hg17, decide_eq_true hg80]; rfl
   have hbakB118 : bakB (getA rs ref) who = false := by unfold bakB; rw [decide_eq_false (show ¬ ((getA rs ref).backer ≠ -1) from fun h => h hg76)]; rfl
   have hE118 : rfdE rs who ref = 0 := by rw [rfdE_at hx, if_neg hc78, hputB118, hbakB118]; rfl
   obtain ⟨h1118, h2118⟩ := rfd_go (xs := xs) (ts := ts) hE118
   have h3118 : rfdX xs ts rs who ref = (relX xs who 10) := by rw [h1118]; unfold rfdX2 rfdX1; rw [hputB118, hbakB118]; rfl
   have h4118 : rfdR rs who ref = (rs.set ref.toNat ({ (getA rs ref) with put := false })) := by rw [h2118]; unfold rfdY; rw [hputB118, hbakB118]; rfl
   exact X_return (nt 0) rfl ⟨by rw [hE118], ⟨H110, F86, (by rw [h4118]; exact hR111), (by rw [h3118]; exact ho87), rel116, rel92, dis117⟩, hK0⟩
  refine OI_eq [(0, pt r), (1, pt l), (2, nt who), (3, nt ref), (9, pt b4), (11, .bool (decide ((getA rs ref).by_ = who))), (12, .bool false), (52, .bool true)] (by first | simp [hg80] | rfl) ?_
  refine Os 7 [(0, pt r), (1, pt l), (2, nt who), (3, nt ref), (9, pt b4), (11, .bool (decide ((getA rs ref).by_ = who))), (12, .bool false), (49, .bool true)] ?_
  refine Oe ?_
  refine V_true rfl ?_
  refine Vr ?_
  refine Os 1 [(8, nt 8)] ?_
  refine Oe ?_
  refine V_ret ?_
  refine X_ret_block ?_
  refine X_ret_then ?_
  have hputB119 : putB (getA rs ref) who = false := by unfold putB; rw [decide_eq_false hg80, Bool.and_false]
  have hbakB119 : bakB (getA rs ref) who = false := by unfold bakB; rw [decide_eq_false (show ¬ ((getA rs ref).backer ≠ -1) from fun h => h hg76)]; rfl
  have hE119 : rfdE rs who ref = 8 := by rw [rfdE_at hx, if_neg hc78, hputB119, hbakB119]; rfl
  obtain ⟨h1119, h2119⟩ := rfd_no (xs := xs) (ts := ts) hE119 (by decide)
  exact X_return (nt 8) rfl ⟨by rw [hE119], ⟨H, G, (by rw [h2119]; exact hR), (by rw [h1119]; exact hl), hHr, hGr, hHG⟩, hK0⟩
 refine GI_eq [(0, pt r), (1, pt l), (2, nt who), (3, nt ref), (9, pt b4), (10, .bool ((getR rs ref).isSome)), (32, .bool (decide ((getA rs ref).by_ = who))), (36, .bool true)] (by first | simp [hg76] | rfl) ?_
 refine Gs [13, 14, 15, 16, 17, 18] [(0, pt r), (1, pt l), (2, nt who), (3, nt ref), (9, pt b4), (10, .bool ((getR rs ref).isSome)), (32, .bool (decide ((getA rs ref).by_ = who))), (36, .bool true), (37, .pointer (some ⟨b4, 38, none⟩))] ?_
 refine Gc0 3 (.tmp 37) 38 (nt ((getA rs ref).backer)) (some 38) qhb4_9 rfl ?_
 refine Gs [] [(0, pt r), (1, pt l), (2, nt who), (3, nt ref), (9, pt b4), (10, .bool ((getR rs ref).isSome)), (11, .bool (decide ((getA rs ref).by_ = who))), (12, .bool (decide ((getA rs ref).backer = who)))] ?_
 refine GI_end ?_
 refine X_then ?_
 refine V_seq ?_
 refine V_block ?_
 refine Vr ?_
 refine Os 3 [(0, pt r), (1, pt l), (2, nt who), (3, nt ref), (9, pt b4), (11, .bool (decide ((getA rs ref).by_ = who))), (12, .bool (decide ((getA rs ref).backer = who))), (42, .bool (!((getR rs ref).isSome)))] ?_
 refine Oe ?_
 refine V_eq [(0, pt r), (1, pt l), (2, nt who), (3, nt ref), (9, pt b4), (11, .bool (decide ((getA rs ref).by_ = who))), (12, .bool (decide ((getA rs ref).backer = who))), (42, .bool false)] (by rw [hx]; rfl) ?_
 refine V_false rfl ?_
 refine Vr ?_
 refine Os 1 [(0, pt r), (1, pt l), (2, nt who), (3, nt ref), (9, pt b4), (11, .bool (decide ((getA rs ref).by_ = who))), (12, .bool (decide ((getA rs ref).backer = who))), (46, pt b4)] ?_
 refine Oc 3 (.tmp 46) 0 (nt ((getA rs ref).state)) (some 47) hb4_9 rfl ?_
 refine Os 4 [(0, pt r), (1, pt l), (2, nt who), (3, nt ref), (9, pt b4), (11, .bool (decide ((getA rs ref).by_ = who))), (12, .bool (decide ((getA rs ref).backer = who))), (45, .bool (decide ((getA rs ref).state = 1)))] ?_
 refine Oe ?_
 refine V_if ((getA rs ref).state = 1) (by kernel_rfl) (fun hc121 => ?_) (fun hc121 => ?_)
 ·
  refine Vr ?_
  refine Os 1 [(8, nt 9)] ?_
  refine Oe ?_
  refine V_ret ?_
  refine X_ret_block ?_
  refine X_ret_then ?_
  have hE122 : rfdE rs who ref = 9 := by rw [rfdE_at hx, if_pos hc121]
  obtain ⟨h1122, h2122⟩ := rfd_no (xs := xs) (ts := ts) hE122 (by decide)
  exact X_return (nt 9) rfl ⟨by rw [hE122], ⟨H, G, (by rw [h2122]; exact hR), (by rw [h1122]; exact hl), hHr, hGr, hHG⟩, hK0⟩
 refine Vr ?_
 refine Os 3 [(0, pt r), (1, pt l), (2, nt who), (3, nt ref), (9, pt b4), (11, .bool (decide ((getA rs ref).by_ = who))), (12, .bool (decide ((getA rs ref).backer = who))), (52, .bool (!(decide ((getA rs ref).by_ = who))))] ?_
 by_cases hg123 : (getA rs ref).by_ = who
 ·
  refine OI_eq [(0, pt r), (1, pt l), (2, nt who), (3, nt ref), (9, pt b4), (11, .bool (decide ((getA rs ref).by_ = who))), (12, .bool (decide ((getA rs ref).backer = who))), (52, .bool false)] (by first | simp [hg123] | rfl) ?_
  refine Os 7 [(0, pt r), (1, pt l), (2, nt who), (3, nt ref), (9, pt b4), (11, .bool (decide ((getA rs ref).by_ = who))), (12, .bool (decide ((getA rs ref).backer = who))), (49, .bool false)] ?_
  refine Oe ?_
  refine V_false rfl ?_
  refine V_skip ?_
  refine X_block ?_
  refine X_then ?_
  refine V_seq ?_
  refine Vr ?_
  refine Os 1 [(0, pt r), (1, pt l), (2, nt who), (3, nt ref), (9, pt b4), (12, .bool (decide ((getA rs ref).backer = who))), (56, .bool (decide ((getA rs ref).by_ = who)))] ?_
  refine Oe ?_
  refine V_eq [(0, pt r), (1, pt l), (2, nt who), (3, nt ref), (9, pt b4), (12, .bool (decide ((getA rs ref).backer = who))), (56, .bool true)] (by rw [decide_eq_true hg123]) ?_
  refine V_true rfl ?_
  refine Vr ?_
  refine Os 2 [(0, pt r), (1, pt l), (2, nt who), (3, nt ref), (9, pt b4), (12, .bool (decide ((getA rs ref).backer = who))), (57, pt l), (58, nt who)] ?_
  refine Ok { callee := (Callee.value (Operand.func 61)), args := #[(Operand.tmp 57), (Operand.tmp 58), (Operand.const (Value.int IntKind.i64 10))], argTypes := #[32, 3, 3] } 61 #[pt l, nt who, nt 10] (some 59) (release_spec G l xs cs who 10 _ hl) ?_
  rintro _ w127 ⟨rfl, ⟨F129, ho130, hfr131⟩, hk128⟩
  refine ⟨_, rfl, ?_⟩
  have hsz132 := Keep.size hk128
  replace hr := hr.keep hk128 (fun hs => by have h1 := hlr _ hs; have h2 := hGlt _ hs; omega)
  replace hb4_9 := hb4_9.keep hk128 (fun hs => by have h1 := hlr _ hs; have h2 := hGlt _ hs; omega)
  replace hA := SlT.keep hA hk128 (fun q hq hs => (fun q h1 h2 => hHG q (hAo q h2).1 h1) q hs hq)
  replace hR := Rfr.keep hR hk128 (fun q hq hs => (fun q h1 h2 => hHG q h2 h1) q hs hq)
  replace hK0 := Keep.fresh hK0 hk128 (fun i hi hs => by rcases hGr i hs with h | h; exact .inr <| h; (exfalso; omega))
  have own134 : ∀ q, F129 q → q ≠ r ∧ q ≠ r ∧ q ≠ b4 := fun q hq => by rcases hfr131 q hq with h | h; (have h1 := hlr q h; have h2 := hGlt q h; omega); omega
  have lt133 := Led.lt ho130
  have rel135 : ∀ q, F129 q → G q ∨ w.heap.size ≤ q := fun q hq => by rcases hfr131 q hq with h | h; exact hGr q h; exact .inr (by omega)
  have dis136 : ∀ q, F129 q → ¬ inA A q := fun q h1 h2 => by rcases hfr131 q h1 with h | h; exact (fun q h1 h2 => hHG q (hAo q h2).1 h1) q h h2; (have h4 := hAlt q h2; omega)
  have dis137 : ∀ q, F129 q → ¬ H q := fun q h1 h2 => by rcases hfr131 q h1 with h | h; exact (fun q h1 h2 => hHG q h2 h1) q h h2; (have h4 := hHlt q h2; omega)
  refine Oe ?_
  refine V_region ?_
  refine Os 1 [(0, pt r), (1, pt l), (2, nt who), (3, nt ref), (9, pt b4), (12, .bool (decide ((getA rs ref).backer = who))), (60, .pointer (some ⟨b4, 37, none⟩))] ?_
  refine OI_set (m := 1) (kd := false) 4 (.tmp 60) (.const (Value.bool false)) 37 (.bool false) [.bool false] none (by kernel_rfl) (by kernel_rfl) (by kernel_rfl) hb4_9 (by kernel_rfl) (by kernel_rfl) (by kernel_rfl) (Nat.le_of_ble_eq_true (by kernel_rfl)) (by simp [Value.oneCell']) ?_
  intro w138 hb4_141 hk139 hz140
  replace hb4_141 : Blk w138 b4 (Rfm.cells { (getA rs ref) with put := false }) 57 := (Blk.eqL (by kernel_rfl) hb4_141)
  have hsz142 := Keep.size hk139
  replace hr := hr.keep hk139 (by show ¬ (_ = _); omega)
  replace hA := SlT.keep hA hk139 (fun q hq hs => by have hs : q = b4 := hs; have g0 := hAr q hq; have g1 := hAlt q hq; omega)
  replace hR := Rfr.keep hR hk139 (fun q hq hs => by have hs : q = b4 := hs; have g0 := hHo q hq; have g1 := hHlt q hq; omega)
  replace hK0 := Keep.fresh hK0 hk139 (by intro i hi hs; first | exact hs | exact Or.inl hs | exact Or.inr hs | (exfalso; have hs2 : i = b4 := hs; omega))
  replace ho130 := Led.keep ho130 hk139 (fun q hq hs => by have hs : q = b4 := hs; have g0 := own134 q hq; have g1 := lt133 q hq; omega)
  refine Oe ?_
  refine V_seq ?_
  refine Vr ?_
  refine Os 1 [(0, pt r), (1, pt l), (2, nt who), (3, nt ref), (9, pt b4), (61, .bool (decide ((getA rs ref).backer = who)))] ?_
  refine Oe ?_
  refine V_if ((getA rs ref).backer = who) (by kernel_rfl) (fun hc143 => ?_) (fun hc143 => ?_)
  ·
   refine V_seq ?_
   refine V_draws (acts [11]) none_ [[0, 1, 2, 3, 4, 5, 6, 7, 8, 9, 10, 11]] (by kernel_rfl) (by repeat first | exact sure_body (by rintro _ _ ⟨h, _⟩; exact ⟨_, h⟩) | refine sure_then ?_ | refine sure_block ?_ | refine sure_join ?_) (by kernel_rfl) ?_
   intro w145 hk144 he146 L hL147
   have hsz148 := Keep.size hk144
   replace hr := hr.keep hk144 (fun f => f)
   replace hb4_141 := hb4_141.keep hk144 (fun f => f)
   replace hA := SlT.keep0 hA hk144
   replace hR := Rfr.keep hR hk144 (fun _ _ f => f)
   replace hK0 := Keep.tr hK0 (Keep.ofNone hk144)
   replace ho130 := Led.keep ho130 hk144 (fun _ _ f => f)
   have qhr := hr
   have qhb4_141 := hb4_141
   have K149 : Keep none_ w145 w145 := Keep.refl _ _
   obtain rfl := List.mem_singleton.1 hL147
   refine Gs [5, 6, 7, 8, 9, 10, 11] [(0, pt r), (3, nt ref), (9, pt b4), (62, pt l), (63, nt who), (66, pt r)] ?_
   refine Gc0 29 (.tmp 66) 0 (.slice A ts.length cap) (some 67) qhr rfl ?_
   refine Gs [7, 8, 9, 10, 11] [(0, pt r), (3, nt ref), (9, pt b4), (62, pt l), (63, nt who), (67, .slice A ts.length cap), (68, .pointer (some ⟨b4, 1, none⟩))] ?_
   refine Gc0 3 (.tmp 68) 1 (nt ((getA rs ref).track)) (some 69) qhb4_141 rfl ?_
   obtain ⟨b150, o150, L150, T150, rfl, hat150⟩ := SlT.open_ hA (by first | omega | (simp only [List.length_map]; omega) | (simp; done) | (simp; omega))
   have hb150lt := hat150.blk.lt
   have hob151 := hAr b150 ⟨_, rfl, rfl⟩
   have hob152 := hAlt b150 ⟨_, rfl, rfl⟩
   have hne153 : ∀ q, F129 q → q ≠ b150 := fun q hq hs => dis136 q hq ⟨_, rfl, hs⟩
   have own154 := fun q hq => And.intro (own134 q hq) (hne153 q hq)
   refine Gp_ [(0, pt r), (3, nt ref), (9, pt b4), (62, pt l), (63, nt who), (67, .slice (some ⟨b150, o150, none⟩) ts.length cap), (69, nt ((getA rs ref).track))] ?_
   refine GI_eq [(0, pt r), (3, nt ref), (9, pt b4), (62, pt l), (63, nt who), (67, .slice (some ⟨b150, o150, none⟩) ts.length cap), (69, nt ((jt : Nat) : Int))] (by rw [hjt]) ?_
   refine GI_pure (some 70) (.indexAddr 29 (.tmp 67) (.tmp 69)) (by kernel_rfl) (by kernel_rfl) (pure_idxN (b := b150) (o := o150) (len := ts.length) (cap := cap) (kd := .i64) (j := jt) (E := 27) (sz := 18) (by_ := 144) (by kernel_rfl) (by kernel_rfl) (by kernel_rfl) (by omega)) ?_
   refine Gs [10, 11] [(0, pt r), (3, nt ref), (9, pt b4), (62, pt l), (63, nt who), (71, .pointer (some ⟨b150, o150 + jt * 18 + 1, none⟩))] ?_
   refine Gc0 3 (.tmp 71) (o150 + jt * 18 + 1) (nt ((trkA ts (getA rs ref).track).deposit)) (some 72) hat150.blk (At.cell hat150 (es_at htk) rfl) ?_
   refine GI_final 11 (by kernel_rfl) (by kernel_rfl) ?_
   refine Ok { callee := (Callee.value (Operand.func 61)), args := #[(Operand.tmp 62), (Operand.tmp 63), (Operand.tmp 72)], argTypes := #[32, 3, 3] } 61 #[pt l, nt who, nt ((trkA ts (getA rs ref).track).deposit)] (some 73) (release_spec F129 l (relX xs who 10) cs who ((trkA ts (getA rs ref).track).deposit) _ ho130) ?_
   rintro _ w157 ⟨rfl, ⟨F159, ho160, hfr161⟩, hk158⟩
   refine ⟨_, rfl, ?_⟩
   have hsz162 := Keep.size hk158
   replace hr := hr.keep hk158 (fun hs => by have h1 := own154 _ hs; have h2 := lt133 _ hs; omega)
   replace hb4_141 := hb4_141.keep hk158 (fun hs => by have h1 := own154 _ hs; have h2 := lt133 _ hs; omega)
   replace hat150 := hat150.keep hk158 (fun hs => by have h1 := own154 _ hs; have h2 := lt133 _ hs; omega)
   replace hR := Rfr.keep hR hk158 (fun q hq hs => dis137 q hs hq)
   replace hK0 := Keep.fresh hK0 hk158 (fun i hi hs => by rcases rel135 i hs with h | h; exact .inr <| h; (exfalso; omega))
   have own164 : ∀ q, F159 q → q ≠ r ∧ q ≠ r ∧ q ≠ b4 := fun q hq => by rcases hfr161 q hq with h | h; (have h1 := own154 q h; have h2 := lt133 q h; omega); omega
   have lt163 := Led.lt ho160
   have rel165 : ∀ q, F159 q → G q ∨ w.heap.size ≤ q := fun q hq => by rcases hfr161 q hq with h | h; exact rel135 q h; exact .inr (by omega)
   have dis166 : ∀ q, F159 q → ¬ H q := fun q h1 h2 => by rcases hfr161 q h1 with h | h; exact dis137 q h h2; (have h4 := hHlt q h2; omega)
   refine Oe ?_
   refine V_region ?_
   refine Os 1 [(0, pt r), (3, nt ref), (9, pt b4), (74, .pointer (some ⟨b4, 38, none⟩))] ?_
   refine OI_set (m := 1) (kd := false) 3 (.tmp 74) (.const (Value.int IntKind.i64 (-1))) 38 (nt (-1)) [nt (-1)] none (by kernel_rfl) (by kernel_rfl) (by kernel_rfl) hb4_141 (by kernel_rfl) (by kernel_rfl) (by kernel_rfl) (Nat.le_of_ble_eq_true (by kernel_rfl)) (by simp [Value.oneCell']) ?_
   intro w167 hb4_170 hk168 hz169
   replace hb4_170 : Blk w167 b4 (Rfm.cells { (getA rs ref) with put := false, backer := -1 }) 57 := (Blk.eqL (by kernel_rfl) hb4_170)
   have hsz171 := Keep.size hk168
   replace hr := hr.keep hk168 (by show ¬ (_ = _); omega)
   replace hat150 := hat150.keep hk168 (by show ¬ (_ = _); omega)
   replace hR := Rfr.keep hR hk168 (fun q hq hs => by have hs : q = b4 := hs; have g0 := hHo q hq; have g1 := hHlt q hq; omega)
   replace hK0 := Keep.fresh hK0 hk168 (by intro i hi hs; first | exact hs | exact Or.inl hs | exact Or.inr hs | (exfalso; have hs2 : i = b4 := hs; omega))
   replace ho160 := Led.keep ho160 hk168 (fun q hq hs => by have hs : q = b4 := hs; have g0 := own164 q hq; have g1 := lt163 q hq; omega)
   refine Oe ?_
   refine V_seq ?_
   refine V_draws (acts [6]) none_ [[0, 1, 2, 3, 4, 5, 6]] (by kernel_rfl) (by repeat first | exact sure_body (by rintro _ _ ⟨h, _⟩; exact ⟨_, h⟩) | refine sure_then ?_ | refine sure_block ?_ | refine sure_join ?_) (by kernel_rfl) ?_
   intro w173 hk172 he174 L hL175
   have hsz176 := Keep.size hk172
   replace hr := hr.keep hk172 (fun f => f)
   replace hb4_170 := hb4_170.keep hk172 (fun f => f)
   replace hat150 := hat150.keep hk172 (fun f => f)
   replace hR := Rfr.keep hR hk172 (fun _ _ f => f)
   replace hK0 := Keep.tr hK0 (Keep.ofNone hk172)
   replace ho160 := Led.keep ho160 hk172 (fun _ _ f => f)
   have qhr := hr
   have qhb4_170 := hb4_170
   have qhat150 := hat150
   have K177 : Keep none_ w173 w173 := Keep.refl _ _
   obtain rfl := List.mem_singleton.1 hL175
   refine Gs [3, 4, 5, 6] [(3, nt ref), (9, pt b4), (77, .pointer (some ⟨r, 1, none⟩))] ?_
   refine Gc0 95 (.tmp 77) 1 (pt g) (some 78) qhr rfl ?_
   refine Gs [5, 6] [(9, pt b4), (78, pt g), (79, nt ref)] ?_
   refine Ga 57 (.tmp 9) 0 (Rfm.cells { (getA rs ref) with put := false, backer := -1 }) (some 80) 45 qhb4_170 (fun f => f) (take_all (Rfm.len _)) (Rfm.len _) ?_
   refine GI_final 6 (by kernel_rfl) (by kernel_rfl) ?_
   refine Ok { callee := (Callee.value (Operand.func 45)), args := #[(Operand.tmp 78), (Operand.const (Value.int IntKind.i64 0)), (Operand.tmp 79), (Operand.tmp 80)], argTypes := #[95, 3, 3, 57] } 45 #[pt g, nt 0, nt ref, .agg (Rfm.cells { (getA rs ref) with put := false, backer := -1 }).toArray] (some 81) (rset_spec H r g ts rs ref ({ (getA rs ref) with put := false, backer := -1 }) _ hR href htr) ?_
   rintro _ w180 ⟨rfl, ⟨H182, hR183, hfr184⟩, hk181⟩
   refine ⟨_, rfl, ?_⟩
   have hsz185 := Keep.size hk181
   replace hr := hr.keep hk181 (fun hs => by have h1 := hgo _ hs; have h2 := hgl _ hs; omega)
   replace hb4_170 := hb4_170.keep hk181 (fun hs => by have h1 := hgo _ hs; have h2 := hgl _ hs; omega)
   replace hat150 := hat150.keep hk181 (fun hs => by have h1 := hgo _ hs; have h2 := hgl _ hs; omega)
   replace hK0 := Keep.fresh hK0 hk181 (by intro i hi hs; first | exact hs | (exfalso; have h1 := hgo i hs; have h2 := hgl i hs; omega) | (have h1 := hgo i hs; have h2 := hgl i hs; show _ ∨ _; omega))
   replace ho160 := Led.keep ho160 hk181 (fun q hq hs => (fun q h1 h2 => (fun q h1 h2 => dis166 q h2 h1) q (by rw [show q = g from h1]; exact hgH) h2) q hs hq)
   have own187 : ∀ q, H182 q → 0 ≤ q ∧ q ≠ b4 := fun q hq => by rcases hfr184 q hq with h | h; (have h1 := hHo q h; have h2 := hHlt q h; omega); omega
   have lt186 := Rfr.lt hR183
   have rel188 : ∀ q, H182 q → H q ∨ w.heap.size ≤ q := fun q hq => by rcases hfr184 q hq with h | h; exact hHr q h; exact .inr (by omega)
   have dis189 : ∀ q, H182 q → ¬ F159 q := fun q h1 h2 => by rcases hfr184 q h1 with h | h; exact (fun q h1 h2 => dis166 q h2 h1) q h h2; (have h4 := lt163 q h2; omega)
   refine Oer ?_
   refine Os 1 [(8, nt 0)] ?_
   refine Oe ?_
   refine V_ret ?_
   have hputB190 : putB (getA rs ref) who = true := by unfold putB; rw [hg17, decide_eq_true hg123]; rfl
   have hbakB190 : bakB (getA rs ref) who = true := by unfold bakB; rw [decide_eq_true (show (getA rs ref).backer ≠ -1 from hg76), decide_eq_true hc143]; rfl
   have hE190 : rfdE rs who ref = 0 := by rw [rfdE_at hx, if_neg hc121, hputB190, hbakB190]; rfl
   obtain ⟨h1190, h2190⟩ := rfd_go (xs := xs) (ts := ts) hE190
   have h3190 : rfdX xs ts rs who ref = (relX (relX xs who 10) who ((trkA ts (getA rs ref).track).deposit)) := by rw [h1190]; unfold rfdX2 rfdX1; rw [hputB190, hbakB190]; rfl
   have h4190 : rfdR rs who ref = (rs.set ref.toNat ({ (getA rs ref) with put := false, backer := -1 })) := by rw [h2190]; unfold rfdY; rw [hputB190, hbakB190]; rfl
   exact X_return (nt 0) rfl ⟨by rw [hE190], ⟨H182, F159, (by rw [h4190]; exact hR183), (by rw [h3190]; exact ho160), rel188, rel165, dis189⟩, hK0⟩
  refine V_skip ?_
  refine X_then ?_
  refine V_seq ?_
  refine V_draws (acts [6]) none_ [[0, 1, 2, 3, 4, 5, 6]] (by kernel_rfl) (by repeat first | exact sure_body (by rintro _ _ ⟨h, _⟩; exact ⟨_, h⟩) | refine sure_then ?_ | refine sure_block ?_ | refine sure_join ?_) (by kernel_rfl) ?_
  intro w192 hk191 he193 L hL194
  have hsz195 := Keep.size hk191
  replace hr := hr.keep hk191 (fun f => f)
  replace hb4_141 := hb4_141.keep hk191 (fun f => f)
  replace hA := SlT.keep0 hA hk191
  replace hR := Rfr.keep hR hk191 (fun _ _ f => f)
  replace hK0 := Keep.tr hK0 (Keep.ofNone hk191)
  replace ho130 := Led.keep ho130 hk191 (fun _ _ f => f)
  have qhr := hr
  have qhb4_141 := hb4_141
  have K196 : Keep none_ w192 w192 := Keep.refl _ _
  obtain rfl := List.mem_singleton.1 hL194
  refine Gs [3, 4, 5, 6] [(3, nt ref), (9, pt b4), (77, .pointer (some ⟨r, 1, none⟩))] ?_
  refine Gc0 95 (.tmp 77) 1 (pt g) (some 78) qhr rfl ?_
  refine Gs [5, 6] [(9, pt b4), (78, pt g), (79, nt ref)] ?_
  refine Ga 57 (.tmp 9) 0 (Rfm.cells { (getA rs ref) with put := false }) (some 80) 45 qhb4_141 (fun f => f) (take_all (Rfm.len _)) (Rfm.len _) ?_
  refine GI_final 6 (by kernel_rfl) (by kernel_rfl) ?_
  refine Ok { callee := (Callee.value (Operand.func 45)), args := #[(Operand.tmp 78), (Operand.const (Value.int IntKind.i64 0)), (Operand.tmp 79), (Operand.tmp 80)], argTypes := #[95, 3, 3, 57] } 45 #[pt g, nt 0, nt ref, .agg (Rfm.cells { (getA rs ref) with put := false }).toArray] (some 81) (rset_spec H r g ts rs ref ({ (getA rs ref) with put := false }) _ hR href htr) ?_
  rintro _ w199 ⟨rfl, ⟨H201, hR202, hfr203⟩, hk200⟩
  refine ⟨_, rfl, ?_⟩
  have hsz204 := Keep.size hk200
  replace hr := hr.keep hk200 (fun hs => by have h1 := hgo _ hs; have h2 := hgl _ hs; omega)
  replace hb4_141 := hb4_141.keep hk200 (fun hs => by have h1 := hgo _ hs; have h2 := hgl _ hs; omega)
  replace hA := SlT.keep hA hk200 (fun q hq hs => (fun q h1 h2 => (hAo q h2).2.2 h1) q hs hq)
  replace hK0 := Keep.fresh hK0 hk200 (by intro i hi hs; first | exact hs | (exfalso; have h1 := hgo i hs; have h2 := hgl i hs; omega) | (have h1 := hgo i hs; have h2 := hgl i hs; show _ ∨ _; omega))
  replace ho130 := Led.keep ho130 hk200 (fun q hq hs => (fun q h1 h2 => (fun q h1 h2 => dis137 q h2 h1) q (by rw [show q = g from h1]; exact hgH) h2) q hs hq)
  have own206 : ∀ q, H201 q → 0 ≤ q ∧ q ≠ b4 := fun q hq => by rcases hfr203 q hq with h | h; (have h1 := hHo q h; have h2 := hHlt q h; omega); omega
  have lt205 := Rfr.lt hR202
  have rel207 : ∀ q, H201 q → H q ∨ w.heap.size ≤ q := fun q hq => by rcases hfr203 q hq with h | h; exact hHr q h; exact .inr (by omega)
  have dis208 : ∀ q, H201 q → ¬ F129 q := fun q h1 h2 => by rcases hfr203 q h1 with h | h; exact (fun q h1 h2 => dis137 q h2 h1) q h h2; (have h4 := lt133 q h2; omega)
  refine Oer ?_
  refine Os 1 [(8, nt 0)] ?_
  refine Oe ?_
  refine V_ret ?_
  have hputB209 : putB (getA rs ref) who = true := by unfold putB; rw [hg17, decide_eq_true hg123]; rfl
  have hbakB209 : bakB (getA rs ref) who = false := by unfold bakB; rw [decide_eq_false hc143, Bool.and_false]
  have hE209 : rfdE rs who ref = 0 := by rw [rfdE_at hx, if_neg hc121, hputB209, hbakB209]; rfl
  obtain ⟨h1209, h2209⟩ := rfd_go (xs := xs) (ts := ts) hE209
  have h3209 : rfdX xs ts rs who ref = (relX xs who 10) := by rw [h1209]; unfold rfdX2 rfdX1; rw [hputB209, hbakB209]; rfl
  have h4209 : rfdR rs who ref = (rs.set ref.toNat ({ (getA rs ref) with put := false })) := by rw [h2209]; unfold rfdY; rw [hputB209, hbakB209]; rfl
  exact X_return (nt 0) rfl ⟨by rw [hE209], ⟨H201, F129, (by rw [h4209]; exact hR202), (by rw [h3209]; exact ho130), rel207, rel135, dis208⟩, hK0⟩
 refine OI_eq [(0, pt r), (1, pt l), (2, nt who), (3, nt ref), (9, pt b4), (11, .bool (decide ((getA rs ref).by_ = who))), (12, .bool (decide ((getA rs ref).backer = who))), (52, .bool true)] (by first | simp [hg123] | rfl) ?_
 refine Os 7 [(0, pt r), (1, pt l), (2, nt who), (3, nt ref), (9, pt b4), (11, .bool (decide ((getA rs ref).by_ = who))), (12, .bool (decide ((getA rs ref).backer = who))), (49, .bool (!(decide ((getA rs ref).backer = who))))] ?_
 refine Oe ?_
 refine V_not ((getA rs ref).backer = who) (by kernel_rfl) (fun hc210 => ?_) (fun hc210 => ?_)
 ·
  refine Vr ?_
  refine Os 1 [(8, nt 8)] ?_
  refine Oe ?_
  refine V_ret ?_
  refine X_ret_block ?_
  refine X_ret_then ?_
  have hputB211 : putB (getA rs ref) who = false := by unfold putB; rw [decide_eq_false hg123, Bool.and_false]
  have hbakB211 : bakB (getA rs ref) who = false := by unfold bakB; rw [decide_eq_false hc210, Bool.and_false]
  have hE211 : rfdE rs who ref = 8 := by rw [rfdE_at hx, if_neg hc121, hputB211, hbakB211]; rfl
  obtain ⟨h1211, h2211⟩ := rfd_no (xs := xs) (ts := ts) hE211 (by decide)
  exact X_return (nt 8) rfl ⟨by rw [hE211], ⟨H, G, (by rw [h2211]; exact hR), (by rw [h1211]; exact hl), hHr, hGr, hHG⟩, hK0⟩
 refine V_skip ?_
 refine X_block ?_
 refine X_then ?_
 refine V_seq ?_
 refine Vr ?_
 refine Os 1 [(0, pt r), (1, pt l), (2, nt who), (3, nt ref), (9, pt b4), (12, .bool (decide ((getA rs ref).backer = who))), (56, .bool (decide ((getA rs ref).by_ = who)))] ?_
 refine Oe ?_
 refine V_eq [(0, pt r), (1, pt l), (2, nt who), (3, nt ref), (9, pt b4), (12, .bool (decide ((getA rs ref).backer = who))), (56, .bool false)] (by rw [decide_eq_false hg123]) ?_
 refine V_false rfl ?_
 refine V_skip ?_
 refine X_then ?_
 refine V_seq ?_
 refine Vr ?_
 refine Os 1 [(0, pt r), (1, pt l), (2, nt who), (3, nt ref), (9, pt b4), (61, .bool (decide ((getA rs ref).backer = who)))] ?_
 refine Oe ?_
 refine V_eq [(0, pt r), (1, pt l), (2, nt who), (3, nt ref), (9, pt b4), (61, .bool true)] (by rw [decide_eq_true hc210]) ?_
 refine V_true rfl ?_
 refine V_seq ?_
 refine V_draws (acts [11]) none_ [[0, 1, 2, 3, 4, 5, 6, 7, 8, 9, 10, 11]] (by kernel_rfl) (by repeat first | exact sure_body (by rintro _ _ ⟨h, _⟩; exact ⟨_, h⟩) | refine sure_then ?_ | refine sure_block ?_ | refine sure_join ?_) (by kernel_rfl) ?_
 intro w215 hk214 he216 L hL217
 have hsz218 := Keep.size hk214
 replace hr := hr.keep hk214 (fun f => f)
 replace hb4_9 := hb4_9.keep hk214 (fun f => f)
 replace hA := SlT.keep0 hA hk214
 replace hR := Rfr.keep hR hk214 (fun _ _ f => f)
 replace hl := Led.keep hl hk214 (fun _ _ f => f)
 replace hK0 := Keep.tr hK0 (Keep.ofNone hk214)
 have qhr := hr
 have qhb4_9 := hb4_9
 have K219 : Keep none_ w215 w215 := Keep.refl _ _
 obtain rfl := List.mem_singleton.1 hL217
 refine Gs [5, 6, 7, 8, 9, 10, 11] [(0, pt r), (3, nt ref), (9, pt b4), (62, pt l), (63, nt who), (66, pt r)] ?_
 refine Gc0 29 (.tmp 66) 0 (.slice A ts.length cap) (some 67) qhr rfl ?_
 refine Gs [7, 8, 9, 10, 11] [(0, pt r), (3, nt ref), (9, pt b4), (62, pt l), (63, nt who), (67, .slice A ts.length cap), (68, .pointer (some ⟨b4, 1, none⟩))] ?_
 refine Gc0 3 (.tmp 68) 1 (nt ((getA rs ref).track)) (some 69) qhb4_9 rfl ?_
 obtain ⟨b220, o220, L220, T220, rfl, hat220⟩ := SlT.open_ hA (by first | omega | (simp only [List.length_map]; omega) | (simp; done) | (simp; omega))
 have hb220lt := hat220.blk.lt
 have hob221 := hAr b220 ⟨_, rfl, rfl⟩
 have hob222 := hAlt b220 ⟨_, rfl, rfl⟩
 have hne223 : ∀ q, G q → q ≠ b220 := fun q hq hs => (fun q h1 h2 => hHG q (hAo q h2).1 h1) q hq ⟨_, rfl, hs⟩
 have own224 := fun q hq => And.intro (hlr q hq) (hne223 q hq)
 refine Gp_ [(0, pt r), (3, nt ref), (9, pt b4), (62, pt l), (63, nt who), (67, .slice (some ⟨b220, o220, none⟩) ts.length cap), (69, nt ((getA rs ref).track))] ?_
 refine GI_eq [(0, pt r), (3, nt ref), (9, pt b4), (62, pt l), (63, nt who), (67, .slice (some ⟨b220, o220, none⟩) ts.length cap), (69, nt ((jt : Nat) : Int))] (by rw [hjt]) ?_
 refine GI_pure (some 70) (.indexAddr 29 (.tmp 67) (.tmp 69)) (by kernel_rfl) (by kernel_rfl) (pure_idxN (b := b220) (o := o220) (len := ts.length) (cap := cap) (kd := .i64) (j := jt) (E := 27) (sz := 18) (by_ := 144) (by kernel_rfl) (by kernel_rfl) (by kernel_rfl) (by omega)) ?_
 refine Gs [10, 11] [(0, pt r), (3, nt ref), (9, pt b4), (62, pt l), (63, nt who), (71, .pointer (some ⟨b220, o220 + jt * 18 + 1, none⟩))] ?_
 refine Gc0 3 (.tmp 71) (o220 + jt * 18 + 1) (nt ((trkA ts (getA rs ref).track).deposit)) (some 72) hat220.blk (At.cell hat220 (es_at htk) rfl) ?_
 refine GI_final 11 (by kernel_rfl) (by kernel_rfl) ?_
 refine Ok { callee := (Callee.value (Operand.func 61)), args := #[(Operand.tmp 62), (Operand.tmp 63), (Operand.tmp 72)], argTypes := #[32, 3, 3] } 61 #[pt l, nt who, nt ((trkA ts (getA rs ref).track).deposit)] (some 73) (release_spec G l xs cs who ((trkA ts (getA rs ref).track).deposit) _ hl) ?_
 rintro _ w227 ⟨rfl, ⟨F229, ho230, hfr231⟩, hk228⟩
 refine ⟨_, rfl, ?_⟩
 have hsz232 := Keep.size hk228
 replace hr := hr.keep hk228 (fun hs => by have h1 := own224 _ hs; have h2 := hGlt _ hs; omega)
 replace hb4_9 := hb4_9.keep hk228 (fun hs => by have h1 := own224 _ hs; have h2 := hGlt _ hs; omega)
 replace hat220 := hat220.keep hk228 (fun hs => by have h1 := own224 _ hs; have h2 := hGlt _ hs; omega)
 replace hR := Rfr.keep hR hk228 (fun q hq hs => (fun q h1 h2 => hHG q h2 h1) q hs hq)
 replace hK0 := Keep.fresh hK0 hk228 (fun i hi hs => by rcases hGr i hs with h | h; exact .inr <| h; (exfalso; omega))
 have own234 : ∀ q, F229 q → q ≠ r ∧ q ≠ r ∧ q ≠ b4 := fun q hq => by rcases hfr231 q hq with h | h; (have h1 := own224 q h; have h2 := hGlt q h; omega); omega
 have lt233 := Led.lt ho230
 have rel235 : ∀ q, F229 q → G q ∨ w.heap.size ≤ q := fun q hq => by rcases hfr231 q hq with h | h; exact hGr q h; exact .inr (by omega)
 have dis236 : ∀ q, F229 q → ¬ H q := fun q h1 h2 => by rcases hfr231 q h1 with h | h; exact (fun q h1 h2 => hHG q h2 h1) q h h2; (have h4 := hHlt q h2; omega)
 refine Oe ?_
 refine V_region ?_
 refine Os 1 [(0, pt r), (3, nt ref), (9, pt b4), (74, .pointer (some ⟨b4, 38, none⟩))] ?_
 refine OI_set (m := 1) (kd := false) 3 (.tmp 74) (.const (Value.int IntKind.i64 (-1))) 38 (nt (-1)) [nt (-1)] none (by kernel_rfl) (by kernel_rfl) (by kernel_rfl) hb4_9 (by kernel_rfl) (by kernel_rfl) (by kernel_rfl) (Nat.le_of_ble_eq_true (by kernel_rfl)) (by simp [Value.oneCell']) ?_
 intro w237 hb4_240 hk238 hz239
 replace hb4_240 : Blk w237 b4 (Rfm.cells { (getA rs ref) with backer := -1 }) 57 := (Blk.eqL (by kernel_rfl) hb4_240)
 have hsz241 := Keep.size hk238
 replace hr := hr.keep hk238 (by show ¬ (_ = _); omega)
 replace hat220 := hat220.keep hk238 (by show ¬ (_ = _); omega)
 replace hR := Rfr.keep hR hk238 (fun q hq hs => by have hs : q = b4 := hs; have g0 := hHo q hq; have g1 := hHlt q hq; omega)
 replace hK0 := Keep.fresh hK0 hk238 (by intro i hi hs; first | exact hs | exact Or.inl hs | exact Or.inr hs | (exfalso; have hs2 : i = b4 := hs; omega))
 replace ho230 := Led.keep ho230 hk238 (fun q hq hs => by have hs : q = b4 := hs; have g0 := own234 q hq; have g1 := lt233 q hq; omega)
 refine Oe ?_
 refine V_seq ?_
 refine V_draws (acts [6]) none_ [[0, 1, 2, 3, 4, 5, 6]] (by kernel_rfl) (by repeat first | exact sure_body (by rintro _ _ ⟨h, _⟩; exact ⟨_, h⟩) | refine sure_then ?_ | refine sure_block ?_ | refine sure_join ?_) (by kernel_rfl) ?_
 intro w243 hk242 he244 L hL245
 have hsz246 := Keep.size hk242
 replace hr := hr.keep hk242 (fun f => f)
 replace hb4_240 := hb4_240.keep hk242 (fun f => f)
 replace hat220 := hat220.keep hk242 (fun f => f)
 replace hR := Rfr.keep hR hk242 (fun _ _ f => f)
 replace hK0 := Keep.tr hK0 (Keep.ofNone hk242)
 replace ho230 := Led.keep ho230 hk242 (fun _ _ f => f)
 have qhr := hr
 have qhb4_240 := hb4_240
 have qhat220 := hat220
 have K247 : Keep none_ w243 w243 := Keep.refl _ _
 obtain rfl := List.mem_singleton.1 hL245
 refine Gs [3, 4, 5, 6] [(3, nt ref), (9, pt b4), (77, .pointer (some ⟨r, 1, none⟩))] ?_
 refine Gc0 95 (.tmp 77) 1 (pt g) (some 78) qhr rfl ?_
 refine Gs [5, 6] [(9, pt b4), (78, pt g), (79, nt ref)] ?_
 refine Ga 57 (.tmp 9) 0 (Rfm.cells { (getA rs ref) with backer := -1 }) (some 80) 45 qhb4_240 (fun f => f) (take_all (Rfm.len _)) (Rfm.len _) ?_
 refine GI_final 6 (by kernel_rfl) (by kernel_rfl) ?_
 refine Ok { callee := (Callee.value (Operand.func 45)), args := #[(Operand.tmp 78), (Operand.const (Value.int IntKind.i64 0)), (Operand.tmp 79), (Operand.tmp 80)], argTypes := #[95, 3, 3, 57] } 45 #[pt g, nt 0, nt ref, .agg (Rfm.cells { (getA rs ref) with backer := -1 }).toArray] (some 81) (rset_spec H r g ts rs ref ({ (getA rs ref) with backer := -1 }) _ hR href htr) ?_
 rintro _ w250 ⟨rfl, ⟨H252, hR253, hfr254⟩, hk251⟩
 refine ⟨_, rfl, ?_⟩
 have hsz255 := Keep.size hk251
 replace hr := hr.keep hk251 (fun hs => by have h1 := hgo _ hs; have h2 := hgl _ hs; omega)
 replace hb4_240 := hb4_240.keep hk251 (fun hs => by have h1 := hgo _ hs; have h2 := hgl _ hs; omega)
 replace hat220 := hat220.keep hk251 (fun hs => by have h1 := hgo _ hs; have h2 := hgl _ hs; omega)
 replace hK0 := Keep.fresh hK0 hk251 (by intro i hi hs; first | exact hs | (exfalso; have h1 := hgo i hs; have h2 := hgl i hs; omega) | (have h1 := hgo i hs; have h2 := hgl i hs; show _ ∨ _; omega))
 replace ho230 := Led.keep ho230 hk251 (fun q hq hs => (fun q h1 h2 => (fun q h1 h2 => dis236 q h2 h1) q (by rw [show q = g from h1]; exact hgH) h2) q hs hq)
 have own257 : ∀ q, H252 q → 0 ≤ q ∧ q ≠ b4 := fun q hq => by rcases hfr254 q hq with h | h; (have h1 := hHo q h; have h2 := hHlt q h; omega); omega
 have lt256 := Rfr.lt hR253
 have rel258 : ∀ q, H252 q → H q ∨ w.heap.size ≤ q := fun q hq => by rcases hfr254 q hq with h | h; exact hHr q h; exact .inr (by omega)
 have dis259 : ∀ q, H252 q → ¬ F229 q := fun q h1 h2 => by rcases hfr254 q h1 with h | h; exact (fun q h1 h2 => dis236 q h2 h1) q h h2; (have h4 := lt233 q h2; omega)
 refine Oer ?_
 refine Os 1 [(8, nt 0)] ?_
 refine Oe ?_
 refine V_ret ?_
 have hputB260 : putB (getA rs ref) who = false := by unfold putB; rw [decide_eq_false hg123, Bool.and_false]
 have hbakB260 : bakB (getA rs ref) who = true := by unfold bakB; rw [decide_eq_true (show (getA rs ref).backer ≠ -1 from hg76), decide_eq_true hc210]; rfl
 have hE260 : rfdE rs who ref = 0 := by rw [rfdE_at hx, if_neg hc121, hputB260, hbakB260]; rfl
 obtain ⟨h1260, h2260⟩ := rfd_go (xs := xs) (ts := ts) hE260
 have h3260 : rfdX xs ts rs who ref = (relX xs who ((trkA ts (getA rs ref).track).deposit)) := by rw [h1260]; unfold rfdX2 rfdX1; rw [hputB260, hbakB260]; rfl
 have h4260 : rfdR rs who ref = (rs.set ref.toNat ({ (getA rs ref) with backer := -1 })) := by rw [h2260]; unfold rfdY; rw [hputB260, hbakB260]; rfl
 exact X_return (nt 0) rfl ⟨by rw [hE260], ⟨H252, F229, (by rw [h4260]; exact hR253), (by rw [h3260]; exact ho230), rel258, rel235, dis259⟩, hK0⟩

theorem refund_spec (H : Nat → Prop) (r g : Nat) (ts : List Trk) (rs : List Rfm) (G : Nat → Prop) (l : Nat) (xs : List Acc) (cs : List Ci) (who ref : Int) (w : World) (hR : Rfr H w r g ts rs) (hl : Led G w l xs cs) (hHG : ∀ q, H q → ¬ G q) : Calls Tryz.prog 30 #[.pointer (some ⟨r, 0, none⟩), .pointer (some ⟨l, 0, none⟩), .int .i64 who, .int .i64 ref] w fun e w' => e = .returned (.int .i64 (rfdE rs who ref)) ∧ (∃ H' G', Rfr H' w' r g ts (rfdR rs who ref) ∧ Led G' w' l (rfdX xs ts rs who ref) cs ∧ (∀ q, H' q → H q ∨ w.heap.size ≤ q) ∧ (∀ q, G' q → G q ∨ w.heap.size ≤ q) ∧ (∀ q, H' q → ¬ G' q)) ∧ Keep (fun q => q = g ∨ G q) w w' := by
  cases hx : getR rs ref with
  | none => exact refund_no H r g ts rs G l xs cs who ref w hR hl hHG hx
  | some x => exact refund_at H r g ts rs G l xs cs who ref w hR hl hHG (getR_at (by rw [hx]; rfl))
end Go.Al


namespace Go.Al
open Go Go.RowKit Go.Proofs
theorem SlT.take {α : Type} {w : World} {sz cap : Nat} {f : α → List Value} {A : Option Addr} {xs : List α} (h : SlT w sz f A cap xs) (n : Nat) : SlT w sz f A cap (xs.take n) := by
  rcases h with ⟨h1, h2, h3⟩ | ⟨b, o, L, T, h1, h2, h3, h4, h5, h6⟩
  · refine .inl ⟨h1, h2, ?_⟩
    rw [List.map_take, h3, List.take_nil]
  · refine .inr ⟨b, o, L, T, h1, h2, ?_, h4, ?_, fun e he => h6 e ?_⟩
    · rw [List.length_map, List.length_take]; rw [List.length_map] at h3; omega
    · rw [List.map_take, ← flatten_take h6 n, ← h5, List.take_take, List.length_take]
      congr 1
      rcases Nat.le_total n (xs.map f).length with hn | hn
      · rw [Nat.min_eq_left hn, Nat.min_eq_left (Nat.mul_le_mul_right _ hn)]
      · rw [Nat.min_eq_right hn, Nat.min_eq_right (Nat.mul_le_mul_right _ hn)]
    · rw [List.map_take] at he; exact List.mem_of_mem_take he
section
variable {ts : List Trk} {rs : List Rfm} {now : Int} {s : VS}
theorem setN_len (rs : List Rfm) (ref : Int) : (setN now rs ref).length = rs.length := by unfold setN; rw [List.length_set]
theorem setsN_len : ∀ (l : List Int) (rs : List Rfm), (l.foldl (setN now) rs).length = rs.length
  | [], _ => rfl
  | x :: l, rs => by rw [List.foldl_cons, setsN_len l, setN_len]
theorem setsN_step {l : List Int} {i : Nat} {x : Int} (h : l[i]? = some x) : (l.take (i + 1)).foldl (setN now) rs = setN now ((l.take i).foldl (setN now) rs) x := by
  obtain ⟨h1, rfl⟩ := List.getElem?_eq_some_iff.1 h
  rw [List.take_succ_eq_append_getElem h1, List.foldl_append]; rfl
theorem begN (ts : List Trk) (rs : List Rfm) (j : Nat) (now : Int) : ∃ n : Nat, imin (((waitL ts (j : Int) now 0 rs).length : Nat) : Int) (imax ((trkA ts (j : Int)).most - decN (j : Int) rs) 0) = n ∧ n ≤ (waitL ts (j : Int) now 0 rs).length := by
  refine ⟨(imin (((waitL ts (j : Int) now 0 rs).length : Nat) : Int) (imax ((trkA ts (j : Int)).most - decN (j : Int) rs) 0)).toNat, ?_, ?_⟩ <;> unfold imin imax <;> split <;> split <;> omega
theorem getA_len {i : Int} (hr : 0 ≤ i ∧ i < rs.length) : getR rs i = some (getA rs i) := by
  refine getR_at ?_
  unfold getR
  rw [if_pos hr, List.getElem?_eq_getElem (by omega)]; rfl
end

set_option maxRecDepth 10000 in
set_option maxHeartbeats 2000000 in
theorem begins_spec (H : Nat → Prop) (r g : Nat) (ts : List Trk) (rs : List Rfm) (F : Nat → Prop) (v : Nat) (s : VS) (j : Nat) (now : Int) (w : World) (hR : Rfr H w r g ts rs) (hV : VotT F w v s) (hHF : ∀ q, H q → ¬ F q) (hj : j < ts.length) : Calls Tryz.prog 49 #[.pointer (some ⟨r, 0, none⟩), .pointer (some ⟨v, 0, none⟩), .int .i64 (j : Int), .int .i64 now] w fun e w' => e = .returned (.tuple #[]) ∧ (∃ H', Rfr H' w' r g ts (begR ts s now rs (j : Int)) ∧ (∀ q, H' q → H q ∨ w.heap.size ≤ q)) ∧ Keep (only g) w w' := by
 have hHlt := Rfr.lt hR
 have hrH := Rfr.at_ hR
 have hgH := Rfr.atg hR
 have hrlt := hHlt _ hrH
 have hglt := hHlt _ hgH
 have hin := Rfr.inn hR
 obtain ⟨A, cap, hr, hA, hAo, hrg⟩ := Rfr.parts hR
 have hAlt := SlT.lt hA
 have hAr : ∀ q, inA A q → q ≠ r ∧ q ≠ g ∧ q < w.heap.size := fun q hq => ⟨(hAo q hq).2.1, (hAo q hq).2.2, hAlt q hq⟩
 have hgo : ∀ q, only g q → q ≠ r ∧ q = g := fun q hq => ⟨fun e => hrg (e.symm.trans hq), hq⟩
 have hgl : ∀ q, only g q → q < w.heap.size := fun q hq => by rw [show q = g from hq]; exact hglt
 have hHo : ∀ q, H q → 0 ≤ q := fun q _ => Nat.zero_le q
 have htl := hin.tl
 have hrl := hin.rl
 have hFlt := VotT.lt hV
 have hvlt := hFlt _ (VotT.at_ hV)
 have hVr : ∀ q, F q → q ≠ r := fun q hq e => hHF r hrH (e ▸ hq)
 have hHr : ∀ q, H q → H q ∨ w.heap.size ≤ q := fun _ h => .inl h
 obtain ⟨j9, hjj, _, htk, htm⟩ := trkA_at (ts := ts) (i := (j : Int)) (by omega)
 rw [show j9 = j by omega] at htk
 have hokt := hin.tok _ htm
 have hmost := hokt.1
 have hK0 : Keep (only g) w w := Keep.refl _ _
 have hzhK0 := Keep.size hK0
 refine enterV Tryz.func49 rfl [pt r, pt v, nt ((j : Nat) : Int), nt now] 59 rfl rfl rfl ?_
 refine V_pick [(0, pt r), (1, pt v), (2, nt ((j : Nat) : Int)), (3, nt now)] rfl ?_
 refine Vr ?_
 refine Os 4 [(0, pt r), (2, nt ((j : Nat) : Int)), (3, nt now), (15, pt r), (16, pt v), (17, nt ((j : Nat) : Int)), (18, nt now)] ?_
 refine Ok { callee := (Callee.value (Operand.func 103)), args := #[(Operand.tmp 15), (Operand.tmp 16), (Operand.tmp 17), (Operand.tmp 18)], argTypes := #[34, 33, 3, 3] } 103 #[pt r, pt v, nt ((j : Nat) : Int), nt now] (some 19) (waits_spec H r g ts rs F v s j now _ hR hV hHF hj) ?_
 rintro _ w1 ⟨A3, cap3, rfl, hA3, ow3, hk2⟩
 refine ⟨_, rfl, ?_⟩
 have hsz4 := Keep.size hk2
 replace hr := hr.keep hk2 (fun f => f)
 replace hA := SlT.keep0 hA hk2
 replace hR := Rfr.keep hR hk2 (fun _ _ f => f)
 replace hK0 := Keep.tr hK0 (Keep.ofNone hk2)
 have hwl9 := waitL_len (ts := ts) (of := (j : Int)) (now := now) rs 0
 have hdn9 := decN_bnd (of := (j : Int)) rs
 have hsl9 := sortD_len (fun r => (tallyT s r).a) (waitL ts (j : Int) now 0 rs)
 obtain ⟨nb9, hnb9, hnl9⟩ := begN ts rs j now
 have hcp9 := SlT.cap_le hA3
 replace hA3 := SlT.take hA3 nb9
 have ltA3 := SlT.lt hA3
 have htl9 : ((sortD (fun r => (tallyT s r).a) (waitL ts (j : Int) now 0 rs)).take nb9).length = nb9 := by rw [List.length_take, hsl9]; omega
 generalize hls9 : (sortD (fun r => (tallyT s r).a) (waitL ts (j : Int) now 0 rs)).take nb9 = ls at hA3 htl9
 refine Os 10 [(0, pt r), (2, nt ((j : Nat) : Int)), (3, nt now), (8, .slice A3 ((waitL ts (j : Int) now 0 rs).length) cap3), (9, nt (decN (j : Int) rs))] ?_
 refine Oer ?_
 refine Os 6 [(0, pt r), (2, nt ((j : Nat) : Int)), (3, nt now), (9, nt (decN (j : Int) rs)), (22, .slice A3 ((waitL ts (j : Int) now 0 rs).length) cap3), (24, nt (((waitL ts (j : Int) now 0 rs).length : Nat) : Int)), (27, pt r)] ?_
 refine Oc 29 (.tmp 27) 0 (.slice A ts.length cap) (some 28) hr rfl ?_
 refine Os 8 [(0, pt r), (3, nt now), (9, nt (decN (j : Int) rs)), (22, .slice A3 ((waitL ts (j : Int) now 0 rs).length) cap3), (24, nt (((waitL ts (j : Int) now 0 rs).length : Nat) : Int)), (28, .slice A ts.length cap), (29, nt ((j : Nat) : Int))] ?_
 obtain ⟨b5, o5, L5, T5, rfl, hat5⟩ := SlT.open_ hA (by first | omega | (simp only [List.length_map]; omega) | (simp; done) | (simp; omega))
 have hb5lt := hat5.blk.lt
 have hob6 := hAr b5 ⟨_, rfl, rfl⟩
 have hob7 := hAlt b5 ⟨_, rfl, rfl⟩
 refine OI_pure (some 30) (.indexAddr 29 (.tmp 28) (.tmp 29)) (by kernel_rfl) (pure_idxN (b := b5) (o := o5) (len := ts.length) (cap := cap) (kd := .i64) (j := j) (E := 27) (sz := 18) (by_ := 144) (by kernel_rfl) (by kernel_rfl) (by kernel_rfl) (by omega)) ?_
 refine Os 10 [(0, pt r), (3, nt now), (9, nt (decN (j : Int) rs)), (22, .slice A3 ((waitL ts (j : Int) now 0 rs).length) cap3), (24, nt (((waitL ts (j : Int) now 0 rs).length : Nat) : Int)), (31, .pointer (some ⟨b5, o5 + j * 18, none⟩))] ?_
 refine Oc 3 (.tmp 31) (o5 + j * 18) (nt ((trkA ts ((j : Nat) : Int)).most)) (some 32) hat5.blk (At.cell0 hat5 (es_at htk) rfl) ?_
 have hw8 : IntKind.i64.wrap (((trkA ts ((j : Nat) : Int)).most) - (decN (j : Int) rs)) = ((trkA ts ((j : Nat) : Int)).most) - (decN (j : Int) rs) := (wrap64_id (by omega) (by omega)).trans (by omega)
 refine Os 13 [(0, pt r), (3, nt now), (22, .slice A3 ((waitL ts (j : Int) now 0 rs).length) cap3), (24, nt (((waitL ts (j : Int) now 0 rs).length : Nat) : Int)), (34, nt (IntKind.i64.wrap (((trkA ts ((j : Nat) : Int)).most) - (decN (j : Int) rs))))] ?_
 refine OI_eq [(0, pt r), (3, nt now), (22, .slice A3 ((waitL ts (j : Int) now 0 rs).length) cap3), (24, nt (((waitL ts (j : Int) now 0 rs).length : Nat) : Int)), (34, nt (((trkA ts ((j : Nat) : Int)).most) - (decN (j : Int) rs)))] (by rw [hw8]) ?_
 refine Os 15 [(0, pt r), (3, nt now), (22, .slice A3 ((waitL ts (j : Int) now 0 rs).length) cap3), (36, nt (imin (((waitL ts (j : Int) now 0 rs).length : Nat) : Int) (imax (((trkA ts ((j : Nat) : Int)).most) - (decN (j : Int) rs)) 0)))] ?_
 refine Op_ [(0, pt r), (3, nt now), (22, .slice A3 ((waitL ts (j : Int) now 0 rs).length) cap3), (36, nt (imin (((waitL ts (j : Int) now 0 rs).length : Nat) : Int) (imax (((trkA ts ((j : Nat) : Int)).most) - (decN (j : Int) rs)) 0)))] ?_
 refine OI_eq [(0, pt r), (3, nt now), (22, .slice A3 ((waitL ts (j : Int) now 0 rs).length) cap3), (36, nt ((nb9 : Nat) : Int))] (by rw [show imin (((waitL ts (j : Int) now 0 rs).length : Nat) : Int) (imax (((trkA ts ((j : Nat) : Int)).most) - (decN (j : Int) rs)) 0) = ((nb9 : Nat) : Int) from hnb9]) ?_
 refine OI_pure (some 37) ((Op.slice 72 (Operand.tmp 22) none (some (Operand.tmp 36)) none)) (by kernel_rfl) (pure_sliceTo (E := 3) (sz := 1) (by_ := 8) (base := A3) (len := (waitL ts (j : Int) now 0 rs).length) (cap := cap3) (h := nb9) (kd := .i64) (by kernel_rfl) (by kernel_rfl) (by kernel_rfl) (by omega)) ?_
 refine Os 18 [(0, pt r), (3, nt now), (37, .slice A3 nb9 cap3), (38, nt ((nb9 : Nat) : Int)), (39, nt 0)] ?_
 refine Oe ?_
 refine V_block ?_
 refine V_pick [(0, pt r), (3, nt now), (37, .slice A3 nb9 cap3), (38, nt ((nb9 : Nat) : Int)), (39, nt 0)] rfl ?_
 refine V_loop (fun k wI e => ∃ i : Nat, ∃ Hi : Nat → Prop, (k + i = nb9) ∧ (Rfr Hi wI r g ts ((ls.take i).foldl (setN now) rs)) ∧ (∀ q, Hi q → 0 ≤ q) ∧ (∀ q, Hi q → H q ∨ w.heap.size ≤ q) ∧ Keep (only g) w1 wI ∧ e = [(0, pt r), (3, nt now), (37, .slice A3 nb9 cap3), (38, nt ((nb9 : Nat) : Int)), (39, nt ((i : Nat) : Int))]) nb9 ⟨0, H, by omega, hR, (fun q _ => Nat.zero_le q), hHr, Keep.refl _ _, rfl⟩ ?_
 rintro k10 w9 _ ⟨i, Hi, hki, hRi, hHio, hHifr, hk11, rfl⟩
 have hsz12 := Keep.size hk11
 replace hr := hr.keep hk11 (fun hs => by have h1 := hgo _ hs; have h2 := hgl _ hs; omega)
 replace hat5 := hat5.keep hk11 (fun hs => by have h1 := hgo _ hs; have h2 := hgl _ hs; omega)
 replace hA3 := SlT.keep hA3 hk11 (fun q hq hs => by have g0 := ow3 q hq; have g1 := ltA3 q hq; have h1 := hgo q hs; have h2 := hgl q hs; omega)
 replace hK0 := Keep.fresh hK0 hk11 (by intro i hi hs; first | exact hs | (exfalso; have h1 := hgo i hs; have h2 := hgl i hs; omega) | (have h1 := hgo i hs; have h2 := hgl i hs; show _ ∨ _; omega))
 have hzhk11 := Keep.size hk11
 have lt13 := Rfr.lt hRi
 have hsn := setsN_len (now := now) (ls.take i) rs
 refine Vr ?_
 refine Os 1 [(0, pt r), (3, nt now), (37, .slice A3 nb9 cap3), (38, nt ((nb9 : Nat) : Int)), (39, nt ((i : Nat) : Int)), (40, .bool (decide (((i : Nat) : Int) < ((nb9 : Nat) : Int))))] ?_
 refine Oe ?_
 refine V_seq ?_
 refine V_if (((i : Nat) : Int) < ((nb9 : Nat) : Int)) (by kernel_rfl) (fun hc14 => ?_) (fun hc14 => ?_)
 ·
  refine V_skip ?_
  refine X_then ?_
  refine V_seq ?_
  refine V_block ?_
  refine Vr ?_
  obtain ⟨b15, o15, L15, T15, rfl, hat15⟩ := SlT.open_ hA3 (by first | omega | (simp only [List.length_map]; omega) | (simp; done) | (simp; omega))
  have hb15lt := hat15.blk.lt
  have hob16 := ow3 b15 ⟨_, rfl, rfl⟩
  have hob17 := ltA3 b15 ⟨_, rfl, rfl⟩
  refine OI_pure (some 41) (.indexAddr 72 (.tmp 37) (.tmp 39)) (by kernel_rfl) (pure_idxN (b := b15) (o := o15) (len := nb9) (cap := cap3) (kd := .i64) (j := i) (E := 3) (sz := 1) (by_ := 8) (by kernel_rfl) (by kernel_rfl) (by kernel_rfl) (by omega)) ?_
  obtain ⟨x18, hx19⟩ : ∃ x, ls[i]? = some x := ⟨_, List.getElem?_eq_getElem (by first | omega | (simp only [List.length_map]; omega))⟩
  have hmx : 0 ≤ x18 ∧ x18 < (rs.length : Int) := by have h1 := List.mem_of_getElem? hx19; rw [← hls9] at h1; have h2 := waitL_mem (sortD_mem (List.mem_of_mem_take h1)); omega
  have hmg := getA_len (rs := (ls.take i).foldl (setN now) rs) (i := x18) (by omega)
  have hmt := (getA_at (Rfr.inn hRi) hmg).2.1
  refine Oc 3 (.tmp 41) (o15 + i * 1) (nt x18) (some 42) hat15.blk (At.cell0 hat15 (es_at hx19) rfl) ?_
  refine Os 3 [(0, pt r), (3, nt now), (11, nt x18), (37, .slice (some ⟨b15, o15, none⟩) nb9 cap3), (38, nt ((nb9 : Nat) : Int)), (39, nt ((i : Nat) : Int))] ?_
  refine Oer ?_
  refine Os 2 [(0, pt r), (3, nt now), (11, nt x18), (37, .slice (some ⟨b15, o15, none⟩) nb9 cap3), (38, nt ((nb9 : Nat) : Int)), (39, nt ((i : Nat) : Int)), (44, pt r), (45, nt x18)] ?_
  refine Ok { callee := (Callee.value (Operand.func 23)), args := #[(Operand.tmp 44), (Operand.tmp 45)], argTypes := #[34, 3] } 23 #[pt r, nt x18] (some 46) (rget_spec Hi r g ts ((ls.take i).foldl (setN now) rs) x18 _ hRi) ?_
  rintro _ w22 ⟨rfl, hk23⟩
  refine ⟨_, rfl, ?_⟩
  have hsz24 := Keep.size hk23
  replace hr := hr.keep hk23 (fun f => f)
  replace hat5 := hat5.keep hk23 (fun f => f)
  replace hat15 := hat15.keep hk23 (fun f => f)
  replace hK0 := Keep.tr hK0 (Keep.ofNone hk23)
  replace hk11 := Keep.tr hk11 (Keep.ofNone hk23)
  replace hRi := Rfr.keep hRi hk23 (fun _ _ f => f)
  refine Os 6 [(0, pt r), (3, nt now), (11, nt x18), (37, .slice (some ⟨b15, o15, none⟩) nb9 cap3), (38, nt ((nb9 : Nat) : Int)), (39, nt ((i : Nat) : Int)), (47, .agg (Rfm.cells (getA ((ls.take i).foldl (setN now) rs) x18)).toArray), (48, .bool ((getR ((ls.take i).foldl (setN now) rs) x18).isSome))] ?_
  refine OI_alloc 57 (.agg (Rfm.cells Rfm.zero).toArray) (Rfm.cells Rfm.zero) (some 12) (by kernel_rfl) (by kernel_rfl) (by kernel_rfl) ?_
  intro b25 w25 e25 hb25 k25 z25
  have hsz26 := Keep.size k25
  replace hr := hr.keep k25 (fun f => f)
  replace hat5 := hat5.keep k25 (fun f => f)
  replace hat15 := hat15.keep k25 (fun f => f)
  replace hK0 := Keep.tr hK0 (Keep.ofNone k25)
  replace hk11 := Keep.tr hk11 (Keep.ofNone k25)
  replace hRi := Rfr.keep hRi k25 (fun _ _ f => f)
  have hb25lt := hb25.lt
  refine OI_set (m := 45) (kd := true) 57 (.tmp 12) (.tmp 47) 0 (.agg (Rfm.cells (getA ((ls.take i).foldl (setN now) rs) x18)).toArray) (Rfm.cells (getA ((ls.take i).foldl (setN now) rs) x18)) none (by kernel_rfl) (by kernel_rfl) (by kernel_rfl) hb25 (by kernel_rfl) rfl (Rfm.len _) (Nat.le_of_ble_eq_true (by kernel_rfl)) (Rfm.one _) ?_
  intro w27 hb25_30 hk28 hz29
  replace hb25_30 : Blk w27 b25 (Rfm.cells (getA ((ls.take i).foldl (setN now) rs) x18)) 57 := (Blk.eqL (Rfm.over _ _) hb25_30)
  have hsz31 := Keep.size hk28
  replace hr := hr.keep hk28 (by show ¬ (_ = _); omega)
  replace hat5 := hat5.keep hk28 (by show ¬ (_ = _); omega)
  replace hat15 := hat15.keep hk28 (by show ¬ (_ = _); omega)
  replace hK0 := Keep.fresh hK0 hk28 (by intro i hi hs; first | exact hs | exact Or.inl hs | exact Or.inr hs | (exfalso; have hs2 : i = b25 := hs; omega))
  replace hk11 := Keep.fresh hk11 hk28 (by intro i hi hs; first | exact hs | exact Or.inl hs | exact Or.inr hs | (exfalso; have hs2 : i = b25 := hs; omega))
  replace hRi := Rfr.keep hRi hk28 (fun q hq hs => by have hs : q = b25 := hs; have g0 := hHio q hq; have g1 := lt13 q hq; omega)
  refine Os 9 [(0, pt r), (3, nt now), (11, nt x18), (12, pt b25), (37, .slice (some ⟨b15, o15, none⟩) nb9 cap3), (38, nt ((nb9 : Nat) : Int)), (39, nt ((i : Nat) : Int))] ?_
  refine Oer ?_
  refine Os 2 [(0, pt r), (3, nt now), (11, nt x18), (12, pt b25), (37, .slice (some ⟨b15, o15, none⟩) nb9 cap3), (38, nt ((nb9 : Nat) : Int)), (39, nt ((i : Nat) : Int)), (49, nt now), (50, .pointer (some ⟨b25, 39, none⟩))] ?_
  refine OI_set (m := 1) (kd := false) 3 (.tmp 50) (.tmp 49) 39 (nt now) [nt now] none (by kernel_rfl) (by kernel_rfl) (by kernel_rfl) hb25_30 (by kernel_rfl) (by kernel_rfl) (by kernel_rfl) (Nat.le_of_ble_eq_true (by kernel_rfl)) (by simp [Value.oneCell']) ?_
  intro w32 hb25_35 hk33 hz34
  replace hb25_35 : Blk w32 b25 (Rfm.cells { (getA ((ls.take i).foldl (setN now) rs) x18) with since := now }) 57 := (Blk.eqL (by kernel_rfl) hb25_35)
  have hsz36 := Keep.size hk33
  replace hr := hr.keep hk33 (by show ¬ (_ = _); omega)
  replace hat5 := hat5.keep hk33 (by show ¬ (_ = _); omega)
  replace hat15 := hat15.keep hk33 (by show ¬ (_ = _); omega)
  replace hK0 := Keep.fresh hK0 hk33 (by intro i hi hs; first | exact hs | exact Or.inl hs | exact Or.inr hs | (exfalso; have hs2 : i = b25 := hs; omega))
  replace hk11 := Keep.fresh hk11 hk33 (by intro i hi hs; first | exact hs | exact Or.inl hs | exact Or.inr hs | (exfalso; have hs2 : i = b25 := hs; omega))
  replace hRi := Rfr.keep hRi hk33 (fun q hq hs => by have hs : q = b25 := hs; have g0 := hHio q hq; have g1 := lt13 q hq; omega)
  refine Oe ?_
  refine V_draws (acts [6]) none_ [[0, 1, 2, 3, 4, 5, 6]] (by kernel_rfl) (by repeat first | exact (by first | exact sure_body (by rintro _ _ ⟨_, _, h, _⟩; exact ⟨_, h⟩) | exact sure_body (by rintro _ _ ⟨h, _⟩; exact ⟨_, h⟩)) | refine sure_then ?_ | refine sure_block ?_ | refine sure_join ?_) (by kernel_rfl) ?_
  intro w38 hk37 he39 L hL40
  have hsz41 := Keep.size hk37
  replace hr := hr.keep hk37 (fun f => f)
  replace hb25_35 := hb25_35.keep hk37 (fun f => f)
  replace hat5 := hat5.keep hk37 (fun f => f)
  replace hat15 := hat15.keep hk37 (fun f => f)
  replace hK0 := Keep.tr hK0 (Keep.ofNone hk37)
  replace hk11 := Keep.tr hk11 (Keep.ofNone hk37)
  replace hRi := Rfr.keep hRi hk37 (fun _ _ f => f)
  have qhr := hr
  have qhb25_35 := hb25_35
  have qhat5 := hat5
  have qhat15 := hat15
  have K42 : Keep none_ w38 w38 := Keep.refl _ _
  obtain rfl := List.mem_singleton.1 hL40
  refine Gs [3, 4, 5, 6] [(0, pt r), (3, nt now), (11, nt x18), (12, pt b25), (37, .slice (some ⟨b15, o15, none⟩) nb9 cap3), (38, nt ((nb9 : Nat) : Int)), (39, nt ((i : Nat) : Int)), (53, .pointer (some ⟨r, 1, none⟩))] ?_
  refine Gc0 95 (.tmp 53) 1 (pt g) (some 54) qhr rfl ?_
  refine Gs [5, 6] [(0, pt r), (3, nt now), (12, pt b25), (37, .slice (some ⟨b15, o15, none⟩) nb9 cap3), (38, nt ((nb9 : Nat) : Int)), (39, nt ((i : Nat) : Int)), (54, pt g), (55, nt x18)] ?_
  refine Ga 57 (.tmp 12) 0 (Rfm.cells { (getA ((ls.take i).foldl (setN now) rs) x18) with since := now }) (some 56) 45 qhb25_35 (fun f => f) (take_all (Rfm.len _)) (Rfm.len _) ?_
  refine GI_final 6 (by kernel_rfl) (by kernel_rfl) ?_
  refine Ok { callee := (Callee.value (Operand.func 45)), args := #[(Operand.tmp 54), (Operand.const (Value.int IntKind.i64 0)), (Operand.tmp 55), (Operand.tmp 56)], argTypes := #[95, 3, 3, 57] } 45 #[pt g, nt 0, nt x18, .agg (Rfm.cells { (getA ((ls.take i).foldl (setN now) rs) x18) with since := now }).toArray] (some 57) (rset_spec Hi r g ts ((ls.take i).foldl (setN now) rs) x18 ({ (getA ((ls.take i).foldl (setN now) rs) x18) with since := now }) _ hRi (by omega) hmt) ?_
  rintro _ w47 ⟨rfl, ⟨H49, hR50, hfr51⟩, hk48⟩
  refine ⟨_, rfl, ?_⟩
  have hsz52 := Keep.size hk48
  replace hr := hr.keep hk48 (fun hs => by have h1 := hgo _ hs; have h2 := hgl _ hs; omega)
  replace hb25_35 := hb25_35.keep hk48 (fun hs => by have h1 := hgo _ hs; have h2 := hgl _ hs; omega)
  replace hat5 := hat5.keep hk48 (fun hs => by have h1 := hgo _ hs; have h2 := hgl _ hs; omega)
  replace hat15 := hat15.keep hk48 (fun hs => by have h1 := hgo _ hs; have h2 := hgl _ hs; omega)
  replace hK0 := Keep.fresh hK0 hk48 (by intro i hi hs; first | exact hs | (exfalso; have h1 := hgo i hs; have h2 := hgl i hs; omega) | (have h1 := hgo i hs; have h2 := hgl i hs; show _ ∨ _; omega))
  replace hk11 := Keep.fresh hk11 hk48 (by intro i hi hs; first | exact hs | (exfalso; have h1 := hgo i hs; have h2 := hgl i hs; omega) | (have h1 := hgo i hs; have h2 := hgl i hs; show _ ∨ _; omega))
  have own54 : ∀ q, H49 q → 0 ≤ q ∧ q ≠ b25 := fun q hq => by rcases hfr51 q hq with h | h; (have h1 := hHio q h; have h2 := lt13 q h; omega); omega
  have lt53 := Rfr.lt hR50
  have rel55 : ∀ q, H49 q → H q ∨ w.heap.size ≤ q := fun q hq => by rcases hfr51 q hq with h | h; exact hHifr q h; exact .inr (by omega)
  refine OI_end rfl ?_
  refine X_block ?_
  refine X_then ?_
  refine V_region ?_
  have hw56 : IntKind.i64.wrap (((i : Nat) : Int) + 1) = ((i + 1 : Nat) : Int) := (wrap64_id (by omega) (by omega)).trans (by omega)
  refine Os 1 [(0, pt r), (3, nt now), (37, .slice (some ⟨b15, o15, none⟩) nb9 cap3), (38, nt ((nb9 : Nat) : Int)), (58, nt (IntKind.i64.wrap (((i : Nat) : Int) + 1)))] ?_
  refine OI_eq [(0, pt r), (3, nt now), (37, .slice (some ⟨b15, o15, none⟩) nb9 cap3), (38, nt ((nb9 : Nat) : Int)), (58, nt ((i + 1 : Nat) : Int))] (by rw [hw56]) ?_
  refine Os 2 [(0, pt r), (3, nt now), (37, .slice (some ⟨b15, o15, none⟩) nb9 cap3), (38, nt ((nb9 : Nat) : Int)), (39, nt ((i + 1 : Nat) : Int))] ?_
  refine OI_end rfl ?_
  exact V_again (k10 - 1) (by omega) [(0, pt r), (3, nt now), (37, .slice (some ⟨b15, o15, none⟩) nb9 cap3), (38, nt ((nb9 : Nat) : Int)), (39, nt ((i + 1 : Nat) : Int))] rfl ⟨i + 1, H49, by omega, by rw [setsN_step hx19]; exact hR50, (fun q hq => by have h1 := own54 q hq; omega), rel55, hk11, rfl⟩
 refine V_exit ?_
 refine X_exit_then ?_
 refine X_exit_then ?_
 refine X_exit_here ?_
 have hie : i = nb9 := by omega
 have hfin : begR ts s now rs (j : Int) = (ls.take i).foldl (setN now) rs := by unfold begR begL; rw [hnb9, Int.toNat_natCast, hls9, hie, List.take_of_length_le (by omega)]
 exact X_end _ rfl ⟨rfl, ⟨Hi, (by rw [hfin]; exact hRi), hHifr⟩, hK0⟩
end Go.Al


namespace Go.Al
open Go Go.RowKit Go.Proofs
set_option maxRecDepth 10000 in
set_option maxHeartbeats 1000000 in
theorem decides_spec (H : Nat → Prop) (r g : Nat) (ts : List Trk) (rs : List Rfm) (x : Rfm) (y : Tly) (iss now : Int) (w : World) (hR : Rfr H w r g ts rs) (htr : 0 ≤ x.track ∧ x.track < ts.length) : Calls Tryz.prog 50 #[.pointer (some ⟨r, 0, none⟩), .agg x.cells.toArray, .agg y.cells.toArray, .int .i64 iss, .int .i64 now] w fun e w' => e = .returned (.tuple #[.agg (decY ts x y iss now).cells.toArray, .int .i64 (decE ts x y iss now)]) ∧ Keep none_ w w' := by
 have hHlt := Rfr.lt hR
 have hrH := Rfr.at_ hR
 have hgH := Rfr.atg hR
 have hrlt := hHlt _ hrH
 have hglt := hHlt _ hgH
 have hin := Rfr.inn hR
 obtain ⟨A, cap, hr, hA, hAo, hrg⟩ := Rfr.parts hR
 have hAlt := SlT.lt hA
 have hAr : ∀ q, inA A q → q ≠ r ∧ q ≠ g ∧ q < w.heap.size := fun q hq => ⟨(hAo q hq).2.1, (hAo q hq).2.2, hAlt q hq⟩
 have hgo : ∀ q, only g q → q ≠ r ∧ q = g := fun q hq => ⟨fun e => hrg (e.symm.trans hq), hq⟩
 have hgl : ∀ q, only g q → q < w.heap.size := fun q hq => by rw [show q = g from hq]; exact hglt
 have hHo : ∀ q, H q → 0 ≤ q := fun q _ => Nat.zero_le q
 have htl := hin.tl
 have hrl := hin.rl
 obtain ⟨jt, hjt, hjl, htk, htm⟩ := trkA_at htr
 have hokt := hin.tok _ htm
 have hK0 : Keep none_ w w := Keep.refl _ _
 have hzhK0 := Keep.size hK0
 refine enterM Tryz.func50 rfl [pt r, .agg (Rfm.cells x).toArray, .agg (Tly.cells y).toArray, nt iss, nt now] 77 rfl rfl rfl ?_
 refine V_pick [(0, pt r), (1, .agg (Rfm.cells x).toArray), (2, .agg (Tly.cells y).toArray), (3, nt iss), (4, nt now)] rfl ?_
 refine Vr ?_
 refine OI_box 57 (.tmp 1) (.agg (Rfm.cells x).toArray) (Rfm.cells x) (some 6) (by kernel_rfl) (by kernel_rfl) rfl ?_
 intro b1 w1 e1 hb1 k1 z1
 have hsz2 := Keep.size k1
 replace hr := hr.keep k1 (fun f => f)
 replace hA := SlT.keep0 hA k1
 replace hR := Rfr.keep hR k1 (fun _ _ f => f)
 replace hK0 := Keep.tr hK0 (Keep.ofNone k1)
 have hb1lt := hb1.lt
 refine OI_box 55 (.tmp 2) (.agg (Tly.cells y).toArray) (Tly.cells y) (some 7) (by kernel_rfl) (by kernel_rfl) rfl ?_
 intro b3 w3 e3 hb3 k3 z3
 have hsz4 := Keep.size k3
 replace hr := hr.keep k3 (fun f => f)
 replace hb1 := hb1.keep k3 (fun f => f)
 replace hA := SlT.keep0 hA k3
 replace hR := Rfr.keep hR k3 (fun _ _ f => f)
 replace hK0 := Keep.tr hK0 (Keep.ofNone k3)
 have hb3lt := hb3.lt
 refine OI_alloc 57 (.agg (Rfm.cells Rfm.zero).toArray) (Rfm.cells Rfm.zero) (some 10) (by kernel_rfl) (by kernel_rfl) (by kernel_rfl) ?_
 intro b5 w5 e5 hb5 k5 z5
 have hsz6 := Keep.size k5
 replace hr := hr.keep k5 (fun f => f)
 replace hb1 := hb1.keep k5 (fun f => f)
 replace hb3 := hb3.keep k5 (fun f => f)
 replace hA := SlT.keep0 hA k5
 replace hR := Rfr.keep hR k5 (fun _ _ f => f)
 replace hK0 := Keep.tr hK0 (Keep.ofNone k5)
 have hb5lt := hb5.lt
 refine Os 4 [(0, pt r), (3, nt iss), (4, nt now), (6, pt b1), (7, pt b3), (10, pt b5)] ?_
 refine Oe ?_
 refine V_seq ?_
 refine Vr ?_
 refine Os 1 [(0, pt r), (3, nt iss), (4, nt now), (6, pt b1), (7, pt b3), (10, pt b5), (13, .pointer (some ⟨b1, 39, none⟩))] ?_
 refine Oc 3 (.tmp 13) 39 (nt x.since) (some 14) hb1 rfl ?_
 refine Os 3 [(0, pt r), (3, nt iss), (4, nt now), (6, pt b1), (7, pt b3), (10, pt b5), (15, .bool (decide (x.since = -1)))] ?_
 refine Oe ?_
 refine V_if (x.since = -1) (by kernel_rfl) (fun hc7 => ?_) (fun hc7 => ?_)
 ·
  refine V_seq ?_
  refine Vr ?_
  refine Os 2 [(6, pt b1), (10, pt b5), (16, nt now), (17, .pointer (some ⟨b1, 35, none⟩))] ?_
  refine Oc 3 (.tmp 17) 35 (nt x.sub) (some 18) hb1 rfl ?_
  refine Os 5 [(6, pt b1), (10, pt b5), (20, .bool (decide (IntKind.i64.wrap (now - x.sub) ≥ 30)))] ?_
  refine Oe ?_
  refine V_if (IntKind.i64.wrap (now - x.sub) ≥ 30) (by kernel_rfl) (fun hc8 => ?_) (fun hc8 => ?_)
  ·
   refine Vr ?_
   refine Oa 57 (.tmp 6) 0 (Rfm.cells x) (some 21) 45 hb1 (take_all (Rfm.len _)) (Rfm.len _) ?_
   refine OI_set (m := 45) (kd := true) 57 (.tmp 10) (.tmp 21) 0 (.agg (Rfm.cells x).toArray) (Rfm.cells x) none (by kernel_rfl) (by kernel_rfl) (by kernel_rfl) hb5 (by kernel_rfl) rfl (Rfm.len _) (Nat.le_of_ble_eq_true (by kernel_rfl)) (Rfm.one _) ?_
   intro w9 hb5_12 hk10 hz11
   replace hb5_12 : Blk w9 b5 (Rfm.cells x) 57 := (Blk.eqL (Rfm.over _ _) hb5_12)
   have hsz13 := Keep.size hk10
   replace hr := hr.keep hk10 (by show ¬ (_ = _); omega)
   replace hb1 := hb1.keep hk10 (by show ¬ (_ = _); omega)
   replace hb3 := hb3.keep hk10 (by show ¬ (_ = _); omega)
   replace hA := SlT.keep hA hk10 (fun q hq hs => by have hs : q = b5 := hs; have g0 := hAr q hq; have g1 := hAlt q hq; omega)
   replace hR := Rfr.keep hR hk10 (fun q hq hs => by have hs : q = b5 := hs; have g0 := hHo q hq; have g1 := hHlt q hq; omega)
   replace hK0 := Keep.fresh hK0 hk10 (by intro i hi hs; first | exact hs | exact Or.inl hs | exact Or.inr hs | (exfalso; have hs2 : i = b5 := hs; omega))
   refine Os 3 [(10, pt b5), (11, nt 4)] ?_
   refine Oe ?_
   refine V_ret ?_
   refine X_ret_then ?_
   refine X_ret_then ?_
   have hY : decY ts x y iss now = x := by unfold decY; rw [if_pos hc7]
   have hE : decE ts x y iss now = 4 := by unfold decE; rw [if_pos hc7, if_pos hc8]
   exact leave0 (.tuple #[.agg (Rfm.cells x).toArray, .int .i64 4]) (.inl rfl) (res_agg_tmp (m := 45) rfl rfl rfl (by kernel_rfl) hb5_12 rfl) ⟨by rw [hY, hE] <;> rfl, hK0⟩
  refine V_skip ?_
  refine X_then ?_
  refine Vr ?_
  refine Oa 57 (.tmp 6) 0 (Rfm.cells x) (some 22) 45 hb1 (take_all (Rfm.len _)) (Rfm.len _) ?_
  refine OI_set (m := 45) (kd := true) 57 (.tmp 10) (.tmp 22) 0 (.agg (Rfm.cells x).toArray) (Rfm.cells x) none (by kernel_rfl) (by kernel_rfl) (by kernel_rfl) hb5 (by kernel_rfl) rfl (Rfm.len _) (Nat.le_of_ble_eq_true (by kernel_rfl)) (Rfm.one _) ?_
  intro w14 hb5_17 hk15 hz16
  replace hb5_17 : Blk w14 b5 (Rfm.cells x) 57 := (Blk.eqL (Rfm.over _ _) hb5_17)
  have hsz18 := Keep.size hk15
  replace hr := hr.keep hk15 (by show ¬ (_ = _); omega)
  replace hb1 := hb1.keep hk15 (by show ¬ (_ = _); omega)
  replace hb3 := hb3.keep hk15 (by show ¬ (_ = _); omega)
  replace hA := SlT.keep hA hk15 (fun q hq hs => by have hs : q = b5 := hs; have g0 := hAr q hq; have g1 := hAlt q hq; omega)
  replace hR := Rfr.keep hR hk15 (fun q hq hs => by have hs : q = b5 := hs; have g0 := hHo q hq; have g1 := hHlt q hq; omega)
  replace hK0 := Keep.fresh hK0 hk15 (by intro i hi hs; first | exact hs | exact Or.inl hs | exact Or.inr hs | (exfalso; have hs2 : i = b5 := hs; omega))
  refine Os 3 [(10, pt b5), (11, nt 0)] ?_
  refine Oe ?_
  refine V_ret ?_
  refine X_ret_then ?_
  have hY : decY ts x y iss now = x := by unfold decY; rw [if_pos hc7]
  have hE : decE ts x y iss now = 0 := by unfold decE; rw [if_pos hc7, if_neg hc8]
  exact leave0 (.tuple #[.agg (Rfm.cells x).toArray, .int .i64 0]) (.inl rfl) (res_agg_tmp (m := 45) rfl rfl rfl (by kernel_rfl) hb5_17 rfl) ⟨by rw [hY, hE] <;> rfl, hK0⟩
 refine V_skip ?_
 refine X_then ?_
 refine V_seq ?_
 refine V_draws (acts [8, 9]) none_ [[8, 0, 1, 2, 3, 4, 5, 6, 7, 9]] (by kernel_rfl) (by repeat first | exact (by first | exact sure_postM | exact sure_rQ2 | exact sure_no) | refine sure_then ?_ | refine sure_block ?_ | refine sure_join ?_) (by kernel_rfl) ?_
 intro w20 hk19 he21 L hL22
 have hsz23 := Keep.size hk19
 replace hr := hr.keep hk19 (fun f => f)
 replace hb1 := hb1.keep hk19 (fun f => f)
 replace hb3 := hb3.keep hk19 (fun f => f)
 replace hb5 := hb5.keep hk19 (fun f => f)
 replace hA := SlT.keep0 hA hk19
 replace hR := Rfr.keep hR hk19 (fun _ _ f => f)
 replace hK0 := Keep.tr hK0 (Keep.ofNone hk19)
 have qhr := hr
 have qhb1 := hb1
 have qhb3 := hb3
 have qhb5 := hb5
 have qhA := hA
 have K24 : Keep none_ w20 w20 := Keep.refl _ _
 obtain rfl := List.mem_singleton.1 hL22
 refine GI_alloc 27 (.agg (Trk.cells Trk.zero).toArray) (Trk.cells Trk.zero) (some 12) (by kernel_rfl) (by kernel_rfl) K24 (by kernel_rfl) (by kernel_rfl) ?_
 intro b25 w25 e25 hb25 k25 z25 K26
 have hsz27 := Keep.size k25
 replace hr := hr.keep k25 (fun f => f)
 replace hb1 := hb1.keep k25 (fun f => f)
 replace hb3 := hb3.keep k25 (fun f => f)
 replace hb5 := hb5.keep k25 (fun f => f)
 replace hA := SlT.keep0 hA k25
 replace hR := Rfr.keep hR k25 (fun _ _ f => f)
 replace hK0 := Keep.tr hK0 (Keep.ofNone k25)
 have hb25lt := hb25.lt
 refine Gs [3, 4, 5, 6, 7, 9] [(3, nt iss), (4, nt now), (6, pt b1), (7, pt b3), (10, pt b5), (12, pt b25), (25, pt r)] ?_
 refine Gc0 29 (.tmp 25) 0 (.slice A ts.length cap) (some 26) qhr rfl ?_
 refine Gs [5, 6, 7, 9] [(3, nt iss), (4, nt now), (6, pt b1), (7, pt b3), (10, pt b5), (12, pt b25), (26, .slice A ts.length cap), (27, .pointer (some ⟨b1, 1, none⟩))] ?_
 refine Gc0 3 (.tmp 27) 1 (nt x.track) (some 28) qhb1 rfl ?_
 obtain ⟨b28, o28, L28, T28, rfl, hat28⟩ := SlT.open_ hA (by first | omega | (simp only [List.length_map]; omega) | (simp; done) | (simp; omega))
 have hb28lt := hat28.blk.lt
 have hob29 := hAr b28 ⟨_, rfl, rfl⟩
 have hob30 := hAlt b28 ⟨_, rfl, rfl⟩
 obtain ⟨qL28, qT28, qhat28⟩ := SlT.openA qhA (by first | omega | (simp; done) | (simp; omega))
 refine Gp_ [(3, nt iss), (4, nt now), (6, pt b1), (7, pt b3), (10, pt b5), (12, pt b25), (26, .slice (some ⟨b28, o28, none⟩) ts.length cap), (28, nt x.track)] ?_
 refine GI_eq [(3, nt iss), (4, nt now), (6, pt b1), (7, pt b3), (10, pt b5), (12, pt b25), (26, .slice (some ⟨b28, o28, none⟩) ts.length cap), (28, nt ((jt : Nat) : Int))] (by rw [hjt]) ?_
 refine GI_pure (some 29) (.indexAddr 29 (.tmp 26) (.tmp 28)) (by kernel_rfl) (by kernel_rfl) (pure_idxN (b := b28) (o := o28) (len := ts.length) (cap := cap) (kd := .i64) (j := jt) (E := 27) (sz := 18) (by_ := 144) (by kernel_rfl) (by kernel_rfl) (by kernel_rfl) (by omega)) ?_
 refine Ga 27 (.tmp 29) (o28 + jt * 18) (Trk.cells (trkA ts x.track)) (some 30) 18 qhat28.blk (fun f => f) (At.elem' qhat28 (es_at htk)) (At.len qhat28 (es_at htk)) ?_
 refine GI_final 9 (by kernel_rfl) (by kernel_rfl) ?_
 refine OI_set (m := 18) (kd := true) 27 (.tmp 12) (.tmp 30) 0 (.agg (Trk.cells (trkA ts x.track)).toArray) (Trk.cells (trkA ts x.track)) none (by kernel_rfl) (by kernel_rfl) (by kernel_rfl) hb25 (by kernel_rfl) rfl (Trk.len _) (Nat.le_of_ble_eq_true (by kernel_rfl)) (Trk.one _) ?_
 intro w31 hb25_34 hk32 hz33
 replace hb25_34 : Blk w31 b25 (Trk.cells (trkA ts x.track)) 27 := (Blk.eqL (Trk.over _ _) hb25_34)
 have hsz35 := Keep.size hk32
 replace hr := hr.keep hk32 (by show ¬ (_ = _); omega)
 replace hb1 := hb1.keep hk32 (by show ¬ (_ = _); omega)
 replace hb3 := hb3.keep hk32 (by show ¬ (_ = _); omega)
 replace hb5 := hb5.keep hk32 (by show ¬ (_ = _); omega)
 replace hat28 := hat28.keep hk32 (by show ¬ (_ = _); omega)
 replace hR := Rfr.keep hR hk32 (fun q hq hs => by have hs : q = b25 := hs; have g0 := hHo q hq; have g1 := hHlt q hq; omega)
 replace hK0 := Keep.fresh hK0 hk32 (by intro i hi hs; first | exact hs | exact Or.inl hs | exact Or.inr hs | (exfalso; have hs2 : i = b25 := hs; omega))
 refine Oe ?_
 refine V_seq ?_
 refine V_block ?_
 refine Vr ?_
 refine Oa 27 (.tmp 12) 0 (Trk.cells (trkA ts x.track)) (some 32) 18 hb25_34 (take_all (Trk.len _)) (Trk.len _) ?_
 refine Oa 55 (.tmp 7) 0 (Tly.cells y) (some 33) 3 hb3 (take_all (Tly.len _)) (Tly.len _) ?_
 refine Os 5 [(4, nt now), (6, pt b1), (10, pt b5), (12, pt b25), (32, .agg (Trk.cells (trkA ts x.track)).toArray), (33, .agg (Tly.cells y).toArray), (34, nt iss), (35, nt now), (36, .pointer (some ⟨b1, 39, none⟩))] ?_
 refine Oc 3 (.tmp 36) 39 (nt x.since) (some 37) hb1 rfl ?_
 refine Os 7 [(4, nt now), (6, pt b1), (10, pt b5), (12, pt b25), (32, .agg (Trk.cells (trkA ts x.track)).toArray), (33, .agg (Tly.cells y).toArray), (34, nt iss), (38, nt (IntKind.i64.wrap (now - x.since)))] ?_
 refine Ok { callee := (Callee.value (Operand.func 104)), args := #[(Operand.tmp 32), (Operand.tmp 33), (Operand.tmp 34), (Operand.tmp 38)], argTypes := #[27, 55, 3, 3] } 104 #[.agg (Trk.cells (trkA ts x.track)).toArray, .agg (Tly.cells y).toArray, nt iss, nt (IntKind.i64.wrap (now - x.since))] (some 39) (passing_spec (trkA ts x.track) y iss (IntKind.i64.wrap (now - x.since)) _ (hokt.2.2.2.2.2.2.2.1) (hokt.2.2.2.2.2.2.2.2.1)) ?_
 rintro _ w36 ⟨rfl, hk37⟩
 refine ⟨_, rfl, ?_⟩
 have hsz38 := Keep.size hk37
 replace hr := hr.keep hk37 (fun f => f)
 replace hb1 := hb1.keep hk37 (fun f => f)
 replace hb3 := hb3.keep hk37 (fun f => f)
 replace hb5 := hb5.keep hk37 (fun f => f)
 replace hb25_34 := hb25_34.keep hk37 (fun f => f)
 replace hat28 := hat28.keep hk37 (fun f => f)
 replace hR := Rfr.keep hR hk37 (fun _ _ f => f)
 replace hK0 := Keep.tr hK0 (Keep.ofNone hk37)
 refine Os 10 [(4, nt now), (6, pt b1), (10, pt b5), (12, pt b25), (31, .bool (!(passB (trkA ts x.track) y iss (IntKind.i64.wrap (now - x.since)))))] ?_
 refine Oe ?_
 refine V_ifb (!(passB (trkA ts x.track) y iss (IntKind.i64.wrap (now - x.since)))) (by kernel_rfl) (fun hc39 => ?_) (fun hc39 => ?_)
 ·
  refine V_region ?_
  refine Os 1 [(4, nt now), (6, pt b1), (10, pt b5), (12, pt b25), (41, .pointer (some ⟨b1, 40, none⟩))] ?_
  refine OI_set (m := 1) (kd := false) 3 (.tmp 41) (.const (Value.int IntKind.i64 (-1))) 40 (nt (-1)) [nt (-1)] none (by kernel_rfl) (by kernel_rfl) (by kernel_rfl) hb1 (by kernel_rfl) (by kernel_rfl) (by kernel_rfl) (Nat.le_of_ble_eq_true (by kernel_rfl)) (by simp [Value.oneCell']) ?_
  intro w40 hb1_43 hk41 hz42
  replace hb1_43 : Blk w40 b1 (Rfm.cells { x with till := -1 }) 57 := (Blk.eqL (by kernel_rfl) hb1_43)
  have hsz44 := Keep.size hk41
  replace hr := hr.keep hk41 (by show ¬ (_ = _); omega)
  replace hb3 := hb3.keep hk41 (by show ¬ (_ = _); omega)
  replace hb5 := hb5.keep hk41 (by show ¬ (_ = _); omega)
  replace hb25_34 := hb25_34.keep hk41 (by show ¬ (_ = _); omega)
  replace hat28 := hat28.keep hk41 (by show ¬ (_ = _); omega)
  replace hR := Rfr.keep hR hk41 (fun q hq hs => by have hs : q = b1 := hs; have g0 := hHo q hq; have g1 := hHlt q hq; omega)
  replace hK0 := Keep.fresh hK0 hk41 (by intro i hi hs; first | exact hs | exact Or.inl hs | exact Or.inr hs | (exfalso; have hs2 : i = b1 := hs; omega))
  refine OI_end rfl ?_
  refine X_block ?_
  refine X_then ?_
  refine V_seq ?_
  refine V_block ?_
  refine Vr ?_
  refine Os 1 [(4, nt now), (6, pt b1), (10, pt b5), (12, pt b25), (52, .pointer (some ⟨b1, 40, none⟩))] ?_
  refine Oc 3 (.tmp 52) 40 (nt (-1)) (some 53) hb1_43 rfl ?_
  refine Os 10 [(4, nt now), (6, pt b1), (10, pt b5), (12, pt b25), (51, .bool false)] ?_
  refine Oe ?_
  refine V_false rfl ?_
  refine Vr ?_
  refine Os 1 [(4, nt now), (6, pt b1), (10, pt b5), (12, pt b25), (63, .pointer (some ⟨b1, 40, none⟩))] ?_
  refine Oc 3 (.tmp 63) 40 (nt (-1)) (some 64) hb1_43 rfl ?_
  refine Os 6 [(6, pt b1), (10, pt b5), (12, pt b25), (66, .bool true), (67, nt now), (68, .pointer (some ⟨b1, 39, none⟩))] ?_
  refine Oc 3 (.tmp 68) 39 (nt x.since) (some 69) hb1_43 rfl ?_
  refine Os 9 [(6, pt b1), (10, pt b5), (66, .bool true), (70, nt (IntKind.i64.wrap (now - x.since))), (71, .pointer (some ⟨b25, 3, none⟩))] ?_
  refine Oc 3 (.tmp 71) 3 (nt ((trkA ts x.track).decision)) (some 72) hb25_34 rfl ?_
  refine Os 13 [(6, pt b1), (10, pt b5), (62, .bool (decide (IntKind.i64.wrap (now - x.since) ≥ (trkA ts x.track).decision)))] ?_
  refine Oe ?_
  refine V_if (IntKind.i64.wrap (now - x.since) ≥ (trkA ts x.track).decision) (by kernel_rfl) (fun hc45 => ?_) (fun hc45 => ?_)
  ·
   refine Vr ?_
   refine Oa 57 (.tmp 6) 0 (Rfm.cells { x with till := -1 }) (some 75) 45 hb1_43 (take_all (Rfm.len _)) (Rfm.len _) ?_
   refine OI_set (m := 45) (kd := true) 57 (.tmp 10) (.tmp 75) 0 (.agg (Rfm.cells { x with till := -1 }).toArray) (Rfm.cells { x with till := -1 }) none (by kernel_rfl) (by kernel_rfl) (by kernel_rfl) hb5 (by kernel_rfl) rfl (Rfm.len _) (Nat.le_of_ble_eq_true (by kernel_rfl)) (Rfm.one _) ?_
   intro w46 hb5_49 hk47 hz48
   replace hb5_49 : Blk w46 b5 (Rfm.cells ({ x with till := -1 })) 57 := (Blk.eqL (Rfm.over _ _) hb5_49)
   have hsz50 := Keep.size hk47
   replace hr := hr.keep hk47 (by show ¬ (_ = _); omega)
   replace hb1_43 := hb1_43.keep hk47 (by show ¬ (_ = _); omega)
   replace hb3 := hb3.keep hk47 (by show ¬ (_ = _); omega)
   replace hb25_34 := hb25_34.keep hk47 (by show ¬ (_ = _); omega)
   replace hat28 := hat28.keep hk47 (by show ¬ (_ = _); omega)
   replace hR := Rfr.keep hR hk47 (fun q hq hs => by have hs : q = b5 := hs; have g0 := hHo q hq; have g1 := hHlt q hq; omega)
   replace hK0 := Keep.fresh hK0 hk47 (by intro i hi hs; first | exact hs | exact Or.inl hs | exact Or.inr hs | (exfalso; have hs2 : i = b5 := hs; omega))
   refine Os 3 [(10, pt b5), (11, nt 3)] ?_
   refine Oe ?_
   refine V_ret ?_
   refine X_ret_block ?_
   refine X_ret_then ?_
   have hu : tillI ts x y iss now = -1 := by unfold tillI; rw [if_pos (by simpa using hc39)]
   have hw1 : w64 (now - x.since) = IntKind.i64.wrap (now - x.since) := rfl
   have hw2 : w64 (now + (trkA ts x.track).confirm) = IntKind.i64.wrap (now + (trkA ts x.track).confirm) := rfl
   have hY : decY ts x y iss now = { x with till := -1 } := by unfold decY; rw [if_neg hc7, hu]
   have hE : decE ts x y iss now = 3 := by unfold decE; rw [if_neg hc7, hu]; (repeat' split) <;> first | rfl | (exfalso; omega)
   exact leave0 (.tuple #[.agg (Rfm.cells ({ x with till := -1 })).toArray, .int .i64 3]) (.inl rfl) (res_agg_tmp (m := 45) rfl rfl rfl (by kernel_rfl) hb5_49 rfl) ⟨by rw [hY, hE] <;> rfl, hK0⟩
  refine V_skip ?_
  refine X_block ?_
  refine X_then ?_
  refine Vr ?_
  refine Oa 57 (.tmp 6) 0 (Rfm.cells { x with till := -1 }) (some 76) 45 hb1_43 (take_all (Rfm.len _)) (Rfm.len _) ?_
  refine OI_set (m := 45) (kd := true) 57 (.tmp 10) (.tmp 76) 0 (.agg (Rfm.cells { x with till := -1 }).toArray) (Rfm.cells { x with till := -1 }) none (by kernel_rfl) (by kernel_rfl) (by kernel_rfl) hb5 (by kernel_rfl) rfl (Rfm.len _) (Nat.le_of_ble_eq_true (by kernel_rfl)) (Rfm.one _) ?_
  intro w51 hb5_54 hk52 hz53
  replace hb5_54 : Blk w51 b5 (Rfm.cells ({ x with till := -1 })) 57 := (Blk.eqL (Rfm.over _ _) hb5_54)
  have hsz55 := Keep.size hk52
  replace hr := hr.keep hk52 (by show ¬ (_ = _); omega)
  replace hb1_43 := hb1_43.keep hk52 (by show ¬ (_ = _); omega)
  replace hb3 := hb3.keep hk52 (by show ¬ (_ = _); omega)
  replace hb25_34 := hb25_34.keep hk52 (by show ¬ (_ = _); omega)
  replace hat28 := hat28.keep hk52 (by show ¬ (_ = _); omega)
  replace hR := Rfr.keep hR hk52 (fun q hq hs => by have hs : q = b5 := hs; have g0 := hHo q hq; have g1 := hHlt q hq; omega)
  replace hK0 := Keep.fresh hK0 hk52 (by intro i hi hs; first | exact hs | exact Or.inl hs | exact Or.inr hs | (exfalso; have hs2 : i = b5 := hs; omega))
  refine Os 3 [(10, pt b5), (11, nt 0)] ?_
  refine Oe ?_
  refine V_ret ?_
  have hu : tillI ts x y iss now = -1 := by unfold tillI; rw [if_pos (by simpa using hc39)]
  have hw1 : w64 (now - x.since) = IntKind.i64.wrap (now - x.since) := rfl
  have hw2 : w64 (now + (trkA ts x.track).confirm) = IntKind.i64.wrap (now + (trkA ts x.track).confirm) := rfl
  have hY : decY ts x y iss now = { x with till := -1 } := by unfold decY; rw [if_neg hc7, hu]
  have hE : decE ts x y iss now = 0 := by unfold decE; rw [if_neg hc7, hu]; (repeat' split) <;> first | rfl | (exfalso; omega)
  exact leave0 (.tuple #[.agg (Rfm.cells ({ x with till := -1 })).toArray, .int .i64 0]) (.inl rfl) (res_agg_tmp (m := 45) rfl rfl rfl (by kernel_rfl) hb5_54 rfl) ⟨by rw [hY, hE] <;> rfl, hK0⟩
 refine Vr ?_
 refine Os 1 [(4, nt now), (6, pt b1), (10, pt b5), (12, pt b25), (43, .pointer (some ⟨b1, 40, none⟩))] ?_
 refine Oc 3 (.tmp 43) 40 (nt x.till) (some 44) hb1 rfl ?_
 refine Os 4 [(4, nt now), (6, pt b1), (10, pt b5), (12, pt b25), (42, .bool (decide (x.till = -1)))] ?_
 refine Oe ?_
 refine V_if (x.till = -1) (by kernel_rfl) (fun hc56 => ?_) (fun hc56 => ?_)
 ·
  refine V_region ?_
  refine Os 2 [(4, nt now), (6, pt b1), (10, pt b5), (12, pt b25), (46, nt now), (47, .pointer (some ⟨b25, 4, none⟩))] ?_
  refine Oc 3 (.tmp 47) 4 (nt ((trkA ts x.track).confirm)) (some 48) hb25_34 rfl ?_
  refine Os 5 [(4, nt now), (6, pt b1), (10, pt b5), (12, pt b25), (49, nt (IntKind.i64.wrap (now + ((trkA ts x.track).confirm)))), (50, .pointer (some ⟨b1, 40, none⟩))] ?_
  refine OI_set (m := 1) (kd := false) 3 (.tmp 50) (.tmp 49) 40 (nt (IntKind.i64.wrap (now + ((trkA ts x.track).confirm)))) [nt (IntKind.i64.wrap (now + ((trkA ts x.track).confirm)))] none (by kernel_rfl) (by kernel_rfl) (by kernel_rfl) hb1 (by kernel_rfl) (by kernel_rfl) (by kernel_rfl) (Nat.le_of_ble_eq_true (by kernel_rfl)) (by simp [Value.oneCell']) ?_
  intro w57 hb1_60 hk58 hz59
  replace hb1_60 : Blk w57 b1 (Rfm.cells { x with till := IntKind.i64.wrap (now + ((trkA ts x.track).confirm)) }) 57 := (Blk.eqL (by kernel_rfl) hb1_60)
  have hsz61 := Keep.size hk58
  replace hr := hr.keep hk58 (by show ¬ (_ = _); omega)
  replace hb3 := hb3.keep hk58 (by show ¬ (_ = _); omega)
  replace hb5 := hb5.keep hk58 (by show ¬ (_ = _); omega)
  replace hb25_34 := hb25_34.keep hk58 (by show ¬ (_ = _); omega)
  replace hat28 := hat28.keep hk58 (by show ¬ (_ = _); omega)
  replace hR := Rfr.keep hR hk58 (fun q hq hs => by have hs : q = b1 := hs; have g0 := hHo q hq; have g1 := hHlt q hq; omega)
  replace hK0 := Keep.fresh hK0 hk58 (by intro i hi hs; first | exact hs | exact Or.inl hs | exact Or.inr hs | (exfalso; have hs2 : i = b1 := hs; omega))
  refine OI_end rfl ?_
  refine X_block ?_
  refine X_then ?_
  refine V_seq ?_
  refine V_block ?_
  refine Vr ?_
  refine Os 1 [(4, nt now), (6, pt b1), (10, pt b5), (12, pt b25), (52, .pointer (some ⟨b1, 40, none⟩))] ?_
  refine Oc 3 (.tmp 52) 40 (nt (IntKind.i64.wrap (now + ((trkA ts x.track).confirm)))) (some 53) hb1_60 rfl ?_
  refine Os 4 [(4, nt now), (6, pt b1), (10, pt b5), (12, pt b25), (55, .bool (!(decide (IntKind.i64.wrap (now + ((trkA ts x.track).confirm)) = -1))))] ?_
  by_cases hg62 : IntKind.i64.wrap (now + ((trkA ts x.track).confirm)) = -1
  ·
   refine OI_eq [(4, nt now), (6, pt b1), (10, pt b5), (12, pt b25), (55, .bool false)] (by first | simp [hg62] | rfl) ?_
   refine Os 10 [(4, nt now), (6, pt b1), (10, pt b5), (12, pt b25), (51, .bool false)] ?_
   refine Oe ?_
   refine V_false rfl ?_
   refine Vr ?_
   refine Os 1 [(4, nt now), (6, pt b1), (10, pt b5), (12, pt b25), (63, .pointer (some ⟨b1, 40, none⟩))] ?_
   refine Oc 3 (.tmp 63) 40 (nt (IntKind.i64.wrap (now + ((trkA ts x.track).confirm)))) (some 64) hb1_60 rfl ?_
   refine Os 4 [(4, nt now), (6, pt b1), (10, pt b5), (12, pt b25), (66, .bool (decide (IntKind.i64.wrap (now + ((trkA ts x.track).confirm)) = -1)))] ?_
   refine OI_eq [(4, nt now), (6, pt b1), (10, pt b5), (12, pt b25), (66, .bool true)] (by rw [decide_eq_true hg62]) ?_
   refine Os 6 [(6, pt b1), (10, pt b5), (12, pt b25), (66, .bool true), (67, nt now), (68, .pointer (some ⟨b1, 39, none⟩))] ?_
   refine Oc 3 (.tmp 68) 39 (nt x.since) (some 69) hb1_60 rfl ?_
   refine Os 9 [(6, pt b1), (10, pt b5), (66, .bool true), (70, nt (IntKind.i64.wrap (now - x.since))), (71, .pointer (some ⟨b25, 3, none⟩))] ?_
   refine Oc 3 (.tmp 71) 3 (nt ((trkA ts x.track).decision)) (some 72) hb25_34 rfl ?_
   refine Os 13 [(6, pt b1), (10, pt b5), (62, .bool (decide (IntKind.i64.wrap (now - x.since) ≥ (trkA ts x.track).decision)))] ?_
   refine Oe ?_
   refine V_if (IntKind.i64.wrap (now - x.since) ≥ (trkA ts x.track).decision) (by kernel_rfl) (fun hc64 => ?_) (fun hc64 => ?_)
   ·
    refine Vr ?_
    refine Oa 57 (.tmp 6) 0 (Rfm.cells { x with till := IntKind.i64.wrap (now + ((trkA ts x.track).confirm)) }) (some 75) 45 hb1_60 (take_all (Rfm.len _)) (Rfm.len _) ?_
    refine OI_set (m := 45) (kd := true) 57 (.tmp 10) (.tmp 75) 0 (.agg (Rfm.cells { x with till := IntKind.i64.wrap (now + ((trkA ts x.track).confirm)) }).toArray) (Rfm.cells { x with till := IntKind.i64.wrap (now + ((trkA ts x.track).confirm)) }) none (by kernel_rfl) (by kernel_rfl) (by kernel_rfl) hb5 (by kernel_rfl) rfl (Rfm.len _) (Nat.le_of_ble_eq_true (by kernel_rfl)) (Rfm.one _) ?_
    intro w65 hb5_68 hk66 hz67
    replace hb5_68 : Blk w65 b5 (Rfm.cells ({ x with till := IntKind.i64.wrap (now + ((trkA ts x.track).confirm)) })) 57 := (Blk.eqL (Rfm.over _ _) hb5_68)
    have hsz69 := Keep.size hk66
    replace hr := hr.keep hk66 (by show ¬ (_ = _); omega)
    replace hb1_60 := hb1_60.keep hk66 (by show ¬ (_ = _); omega)
    replace hb3 := hb3.keep hk66 (by show ¬ (_ = _); omega)
    replace hb25_34 := hb25_34.keep hk66 (by show ¬ (_ = _); omega)
    replace hat28 := hat28.keep hk66 (by show ¬ (_ = _); omega)
    replace hR := Rfr.keep hR hk66 (fun q hq hs => by have hs : q = b5 := hs; have g0 := hHo q hq; have g1 := hHlt q hq; omega)
    replace hK0 := Keep.fresh hK0 hk66 (by intro i hi hs; first | exact hs | exact Or.inl hs | exact Or.inr hs | (exfalso; have hs2 : i = b5 := hs; omega))
    refine Os 3 [(10, pt b5), (11, nt 3)] ?_
    refine Oe ?_
    refine V_ret ?_
    refine X_ret_block ?_
    refine X_ret_then ?_
    have hpb : ¬ passB (trkA ts x.track) y iss (w64 (now - x.since)) = false := by simpa using hc39
    have hu : tillI ts x y iss now = w64 (now + (trkA ts x.track).confirm) := by unfold tillI; rw [if_neg hpb, if_pos hc56]
    have hw1 : w64 (now - x.since) = IntKind.i64.wrap (now - x.since) := rfl
    have hw2 : w64 (now + (trkA ts x.track).confirm) = IntKind.i64.wrap (now + (trkA ts x.track).confirm) := rfl
    have hY : decY ts x y iss now = { x with till := w64 (now + (trkA ts x.track).confirm) } := by unfold decY; rw [if_neg hc7, hu]
    have hE : decE ts x y iss now = 3 := by unfold decE; rw [if_neg hc7, hu]; (repeat' split) <;> first | rfl | (exfalso; omega)
    exact leave0 (.tuple #[.agg (Rfm.cells ({ x with till := IntKind.i64.wrap (now + ((trkA ts x.track).confirm)) })).toArray, .int .i64 3]) (.inl rfl) (res_agg_tmp (m := 45) rfl rfl rfl (by kernel_rfl) hb5_68 rfl) ⟨by rw [hY, hE] <;> rfl, hK0⟩
   refine V_skip ?_
   refine X_block ?_
   refine X_then ?_
   refine Vr ?_
   refine Oa 57 (.tmp 6) 0 (Rfm.cells { x with till := IntKind.i64.wrap (now + ((trkA ts x.track).confirm)) }) (some 76) 45 hb1_60 (take_all (Rfm.len _)) (Rfm.len _) ?_
   refine OI_set (m := 45) (kd := true) 57 (.tmp 10) (.tmp 76) 0 (.agg (Rfm.cells { x with till := IntKind.i64.wrap (now + ((trkA ts x.track).confirm)) }).toArray) (Rfm.cells { x with till := IntKind.i64.wrap (now + ((trkA ts x.track).confirm)) }) none (by kernel_rfl) (by kernel_rfl) (by kernel_rfl) hb5 (by kernel_rfl) rfl (Rfm.len _) (Nat.le_of_ble_eq_true (by kernel_rfl)) (Rfm.one _) ?_
   intro w70 hb5_73 hk71 hz72
   replace hb5_73 : Blk w70 b5 (Rfm.cells ({ x with till := IntKind.i64.wrap (now + ((trkA ts x.track).confirm)) })) 57 := (Blk.eqL (Rfm.over _ _) hb5_73)
   have hsz74 := Keep.size hk71
   replace hr := hr.keep hk71 (by show ¬ (_ = _); omega)
   replace hb1_60 := hb1_60.keep hk71 (by show ¬ (_ = _); omega)
   replace hb3 := hb3.keep hk71 (by show ¬ (_ = _); omega)
   replace hb25_34 := hb25_34.keep hk71 (by show ¬ (_ = _); omega)
   replace hat28 := hat28.keep hk71 (by show ¬ (_ = _); omega)
   replace hR := Rfr.keep hR hk71 (fun q hq hs => by have hs : q = b5 := hs; have g0 := hHo q hq; have g1 := hHlt q hq; omega)
   replace hK0 := Keep.fresh hK0 hk71 (by intro i hi hs; first | exact hs | exact Or.inl hs | exact Or.inr hs | (exfalso; have hs2 : i = b5 := hs; omega))
   refine Os 3 [(10, pt b5), (11, nt 0)] ?_
   refine Oe ?_
   refine V_ret ?_
   have hpb : ¬ passB (trkA ts x.track) y iss (w64 (now - x.since)) = false := by simpa using hc39
   have hu : tillI ts x y iss now = w64 (now + (trkA ts x.track).confirm) := by unfold tillI; rw [if_neg hpb, if_pos hc56]
   have hw1 : w64 (now - x.since) = IntKind.i64.wrap (now - x.since) := rfl
   have hw2 : w64 (now + (trkA ts x.track).confirm) = IntKind.i64.wrap (now + (trkA ts x.track).confirm) := rfl
   have hY : decY ts x y iss now = { x with till := w64 (now + (trkA ts x.track).confirm) } := by unfold decY; rw [if_neg hc7, hu]
   have hE : decE ts x y iss now = 0 := by unfold decE; rw [if_neg hc7, hu]; (repeat' split) <;> first | rfl | (exfalso; omega)
   exact leave0 (.tuple #[.agg (Rfm.cells ({ x with till := IntKind.i64.wrap (now + ((trkA ts x.track).confirm)) })).toArray, .int .i64 0]) (.inl rfl) (res_agg_tmp (m := 45) rfl rfl rfl (by kernel_rfl) hb5_73 rfl) ⟨by rw [hY, hE] <;> rfl, hK0⟩
  refine OI_eq [(4, nt now), (6, pt b1), (10, pt b5), (12, pt b25), (55, .bool true)] (by first | simp [hg62] | rfl) ?_
  refine Os 5 [(4, nt now), (6, pt b1), (10, pt b5), (12, pt b25), (55, .bool true), (56, .pointer (some ⟨b1, 40, none⟩))] ?_
  refine Oc 3 (.tmp 56) 40 (nt (IntKind.i64.wrap (now + ((trkA ts x.track).confirm)))) (some 57) hb1_60 rfl ?_
  refine Os 10 [(4, nt now), (6, pt b1), (10, pt b5), (12, pt b25), (51, .bool (decide (IntKind.i64.wrap (now + ((trkA ts x.track).confirm)) ≤ now)))] ?_
  refine Oe ?_
  refine V_if (IntKind.i64.wrap (now + ((trkA ts x.track).confirm)) ≤ now) (by kernel_rfl) (fun hc75 => ?_) (fun hc75 => ?_)
  ·
   refine Vr ?_
   refine Oa 57 (.tmp 6) 0 (Rfm.cells { x with till := IntKind.i64.wrap (now + ((trkA ts x.track).confirm)) }) (some 61) 45 hb1_60 (take_all (Rfm.len _)) (Rfm.len _) ?_
   refine OI_set (m := 45) (kd := true) 57 (.tmp 10) (.tmp 61) 0 (.agg (Rfm.cells { x with till := IntKind.i64.wrap (now + ((trkA ts x.track).confirm)) }).toArray) (Rfm.cells { x with till := IntKind.i64.wrap (now + ((trkA ts x.track).confirm)) }) none (by kernel_rfl) (by kernel_rfl) (by kernel_rfl) hb5 (by kernel_rfl) rfl (Rfm.len _) (Nat.le_of_ble_eq_true (by kernel_rfl)) (Rfm.one _) ?_
   intro w76 hb5_79 hk77 hz78
   replace hb5_79 : Blk w76 b5 (Rfm.cells ({ x with till := IntKind.i64.wrap (now + ((trkA ts x.track).confirm)) })) 57 := (Blk.eqL (Rfm.over _ _) hb5_79)
   have hsz80 := Keep.size hk77
   replace hr := hr.keep hk77 (by show ¬ (_ = _); omega)
   replace hb1_60 := hb1_60.keep hk77 (by show ¬ (_ = _); omega)
   replace hb3 := hb3.keep hk77 (by show ¬ (_ = _); omega)
   replace hb25_34 := hb25_34.keep hk77 (by show ¬ (_ = _); omega)
   replace hat28 := hat28.keep hk77 (by show ¬ (_ = _); omega)
   replace hR := Rfr.keep hR hk77 (fun q hq hs => by have hs : q = b5 := hs; have g0 := hHo q hq; have g1 := hHlt q hq; omega)
   replace hK0 := Keep.fresh hK0 hk77 (by intro i hi hs; first | exact hs | exact Or.inl hs | exact Or.inr hs | (exfalso; have hs2 : i = b5 := hs; omega))
   refine Os 3 [(10, pt b5), (11, nt 2)] ?_
   refine Oe ?_
   refine V_ret ?_
   refine X_ret_block ?_
   refine X_ret_then ?_
   have hpb : ¬ passB (trkA ts x.track) y iss (w64 (now - x.since)) = false := by simpa using hc39
   have hu : tillI ts x y iss now = w64 (now + (trkA ts x.track).confirm) := by unfold tillI; rw [if_neg hpb, if_pos hc56]
   have hw1 : w64 (now - x.since) = IntKind.i64.wrap (now - x.since) := rfl
   have hw2 : w64 (now + (trkA ts x.track).confirm) = IntKind.i64.wrap (now + (trkA ts x.track).confirm) := rfl
   have hY : decY ts x y iss now = { x with till := w64 (now + (trkA ts x.track).confirm) } := by unfold decY; rw [if_neg hc7, hu]
   have hE : decE ts x y iss now = 2 := by unfold decE; rw [if_neg hc7, hu]; (repeat' split) <;> first | rfl | (exfalso; omega)
   exact leave0 (.tuple #[.agg (Rfm.cells ({ x with till := IntKind.i64.wrap (now + ((trkA ts x.track).confirm)) })).toArray, .int .i64 2]) (.inl rfl) (res_agg_tmp (m := 45) rfl rfl rfl (by kernel_rfl) hb5_79 rfl) ⟨by rw [hY, hE] <;> rfl, hK0⟩
  refine Vr ?_
  refine Os 1 [(4, nt now), (6, pt b1), (10, pt b5), (12, pt b25), (63, .pointer (some ⟨b1, 40, none⟩))] ?_
  refine Oc 3 (.tmp 63) 40 (nt (IntKind.i64.wrap (now + ((trkA ts x.track).confirm)))) (some 64) hb1_60 rfl ?_
  refine Os 4 [(4, nt now), (6, pt b1), (10, pt b5), (12, pt b25), (66, .bool (decide (IntKind.i64.wrap (now + ((trkA ts x.track).confirm)) = -1)))] ?_
  refine OI_eq [(4, nt now), (6, pt b1), (10, pt b5), (12, pt b25), (66, .bool false)] (by rw [decide_eq_false hg62]) ?_
  refine Os 13 [(6, pt b1), (10, pt b5), (62, .bool false)] ?_
  refine Oe ?_
  refine V_false rfl ?_
  refine V_skip ?_
  refine X_block ?_
  refine X_then ?_
  refine Vr ?_
  refine Oa 57 (.tmp 6) 0 (Rfm.cells { x with till := IntKind.i64.wrap (now + ((trkA ts x.track).confirm)) }) (some 76) 45 hb1_60 (take_all (Rfm.len _)) (Rfm.len _) ?_
  refine OI_set (m := 45) (kd := true) 57 (.tmp 10) (.tmp 76) 0 (.agg (Rfm.cells { x with till := IntKind.i64.wrap (now + ((trkA ts x.track).confirm)) }).toArray) (Rfm.cells { x with till := IntKind.i64.wrap (now + ((trkA ts x.track).confirm)) }) none (by kernel_rfl) (by kernel_rfl) (by kernel_rfl) hb5 (by kernel_rfl) rfl (Rfm.len _) (Nat.le_of_ble_eq_true (by kernel_rfl)) (Rfm.one _) ?_
  intro w82 hb5_85 hk83 hz84
  replace hb5_85 : Blk w82 b5 (Rfm.cells ({ x with till := IntKind.i64.wrap (now + ((trkA ts x.track).confirm)) })) 57 := (Blk.eqL (Rfm.over _ _) hb5_85)
  have hsz86 := Keep.size hk83
  replace hr := hr.keep hk83 (by show ¬ (_ = _); omega)
  replace hb1_60 := hb1_60.keep hk83 (by show ¬ (_ = _); omega)
  replace hb3 := hb3.keep hk83 (by show ¬ (_ = _); omega)
  replace hb25_34 := hb25_34.keep hk83 (by show ¬ (_ = _); omega)
  replace hat28 := hat28.keep hk83 (by show ¬ (_ = _); omega)
  replace hR := Rfr.keep hR hk83 (fun q hq hs => by have hs : q = b5 := hs; have g0 := hHo q hq; have g1 := hHlt q hq; omega)
  replace hK0 := Keep.fresh hK0 hk83 (by intro i hi hs; first | exact hs | exact Or.inl hs | exact Or.inr hs | (exfalso; have hs2 : i = b5 := hs; omega))
  refine Os 3 [(10, pt b5), (11, nt 0)] ?_
  refine Oe ?_
  refine V_ret ?_
  have hpb : ¬ passB (trkA ts x.track) y iss (w64 (now - x.since)) = false := by simpa using hc39
  have hu : tillI ts x y iss now = w64 (now + (trkA ts x.track).confirm) := by unfold tillI; rw [if_neg hpb, if_pos hc56]
  have hw1 : w64 (now - x.since) = IntKind.i64.wrap (now - x.since) := rfl
  have hw2 : w64 (now + (trkA ts x.track).confirm) = IntKind.i64.wrap (now + (trkA ts x.track).confirm) := rfl
  have hY : decY ts x y iss now = { x with till := w64 (now + (trkA ts x.track).confirm) } := by unfold decY; rw [if_neg hc7, hu]
  have hE : decE ts x y iss now = 0 := by unfold decE; rw [if_neg hc7, hu]; (repeat' split) <;> first | rfl | (exfalso; omega)
  exact leave0 (.tuple #[.agg (Rfm.cells ({ x with till := IntKind.i64.wrap (now + ((trkA ts x.track).confirm)) })).toArray, .int .i64 0]) (.inl rfl) (res_agg_tmp (m := 45) rfl rfl rfl (by kernel_rfl) hb5_85 rfl) ⟨by rw [hY, hE] <;> rfl, hK0⟩
 refine V_skip ?_
 refine X_block ?_
 refine X_then ?_
 refine V_seq ?_
 refine V_block ?_
 refine Vr ?_
 refine Os 1 [(4, nt now), (6, pt b1), (10, pt b5), (12, pt b25), (52, .pointer (some ⟨b1, 40, none⟩))] ?_
 refine Oc 3 (.tmp 52) 40 (nt x.till) (some 53) hb1 rfl ?_
 refine Os 4 [(4, nt now), (6, pt b1), (10, pt b5), (12, pt b25), (55, .bool (!(decide (x.till = -1))))] ?_
 refine OI_eq [(4, nt now), (6, pt b1), (10, pt b5), (12, pt b25), (55, .bool true)] (by rw [decide_eq_false hc56]; rfl) ?_
 refine Os 5 [(4, nt now), (6, pt b1), (10, pt b5), (12, pt b25), (55, .bool true), (56, .pointer (some ⟨b1, 40, none⟩))] ?_
 refine Oc 3 (.tmp 56) 40 (nt x.till) (some 57) hb1 rfl ?_
 refine Os 10 [(4, nt now), (6, pt b1), (10, pt b5), (12, pt b25), (51, .bool (decide (x.till ≤ now)))] ?_
 refine Oe ?_
 refine V_if (x.till ≤ now) (by kernel_rfl) (fun hc88 => ?_) (fun hc88 => ?_)
 ·
  refine Vr ?_
  refine Oa 57 (.tmp 6) 0 (Rfm.cells x) (some 61) 45 hb1 (take_all (Rfm.len _)) (Rfm.len _) ?_
  refine OI_set (m := 45) (kd := true) 57 (.tmp 10) (.tmp 61) 0 (.agg (Rfm.cells x).toArray) (Rfm.cells x) none (by kernel_rfl) (by kernel_rfl) (by kernel_rfl) hb5 (by kernel_rfl) rfl (Rfm.len _) (Nat.le_of_ble_eq_true (by kernel_rfl)) (Rfm.one _) ?_
  intro w89 hb5_92 hk90 hz91
  replace hb5_92 : Blk w89 b5 (Rfm.cells x) 57 := (Blk.eqL (Rfm.over _ _) hb5_92)
  have hsz93 := Keep.size hk90
  replace hr := hr.keep hk90 (by show ¬ (_ = _); omega)
  replace hb1 := hb1.keep hk90 (by show ¬ (_ = _); omega)
  replace hb3 := hb3.keep hk90 (by show ¬ (_ = _); omega)
  replace hb25_34 := hb25_34.keep hk90 (by show ¬ (_ = _); omega)
  replace hat28 := hat28.keep hk90 (by show ¬ (_ = _); omega)
  replace hR := Rfr.keep hR hk90 (fun q hq hs => by have hs : q = b5 := hs; have g0 := hHo q hq; have g1 := hHlt q hq; omega)
  replace hK0 := Keep.fresh hK0 hk90 (by intro i hi hs; first | exact hs | exact Or.inl hs | exact Or.inr hs | (exfalso; have hs2 : i = b5 := hs; omega))
  refine Os 3 [(10, pt b5), (11, nt 2)] ?_
  refine Oe ?_
  refine V_ret ?_
  refine X_ret_block ?_
  refine X_ret_then ?_
  have hpb : ¬ passB (trkA ts x.track) y iss (w64 (now - x.since)) = false := by simpa using hc39
  have hu : tillI ts x y iss now = x.till := by unfold tillI; rw [if_neg hpb, if_neg hc56]
  have hw1 : w64 (now - x.since) = IntKind.i64.wrap (now - x.since) := rfl
  have hw2 : w64 (now + (trkA ts x.track).confirm) = IntKind.i64.wrap (now + (trkA ts x.track).confirm) := rfl
  have hY : decY ts x y iss now = { x with till := x.till } := by unfold decY; rw [if_neg hc7, hu]
  have hE : decE ts x y iss now = 2 := by unfold decE; rw [if_neg hc7, hu]; (repeat' split) <;> first | rfl | (exfalso; omega)
  exact leave0 (.tuple #[.agg (Rfm.cells x).toArray, .int .i64 2]) (.inl rfl) (res_agg_tmp (m := 45) rfl rfl rfl (by kernel_rfl) hb5_92 rfl) ⟨by rw [hY, hE] <;> rfl, hK0⟩
 refine Vr ?_
 refine Os 1 [(4, nt now), (6, pt b1), (10, pt b5), (12, pt b25), (63, .pointer (some ⟨b1, 40, none⟩))] ?_
 refine Oc 3 (.tmp 63) 40 (nt x.till) (some 64) hb1 rfl ?_
 refine Os 4 [(4, nt now), (6, pt b1), (10, pt b5), (12, pt b25), (66, .bool (decide (x.till = -1)))] ?_
 refine OI_eq [(4, nt now), (6, pt b1), (10, pt b5), (12, pt b25), (66, .bool false)] (by rw [decide_eq_false hc56]) ?_
 refine Os 13 [(6, pt b1), (10, pt b5), (62, .bool false)] ?_
 refine Oe ?_
 refine V_false rfl ?_
 refine V_skip ?_
 refine X_block ?_
 refine X_then ?_
 refine Vr ?_
 refine Oa 57 (.tmp 6) 0 (Rfm.cells x) (some 76) 45 hb1 (take_all (Rfm.len _)) (Rfm.len _) ?_
 refine OI_set (m := 45) (kd := true) 57 (.tmp 10) (.tmp 76) 0 (.agg (Rfm.cells x).toArray) (Rfm.cells x) none (by kernel_rfl) (by kernel_rfl) (by kernel_rfl) hb5 (by kernel_rfl) rfl (Rfm.len _) (Nat.le_of_ble_eq_true (by kernel_rfl)) (Rfm.one _) ?_
 intro w95 hb5_98 hk96 hz97
 replace hb5_98 : Blk w95 b5 (Rfm.cells x) 57 := (Blk.eqL (Rfm.over _ _) hb5_98)
 have hsz99 := Keep.size hk96
 replace hr := hr.keep hk96 (by show ¬ (_ = _); omega)
 replace hb1 := hb1.keep hk96 (by show ¬ (_ = _); omega)
 replace hb3 := hb3.keep hk96 (by show ¬ (_ = _); omega)
 replace hb25_34 := hb25_34.keep hk96 (by show ¬ (_ = _); omega)
 replace hat28 := hat28.keep hk96 (by show ¬ (_ = _); omega)
 replace hR := Rfr.keep hR hk96 (fun q hq hs => by have hs : q = b5 := hs; have g0 := hHo q hq; have g1 := hHlt q hq; omega)
 replace hK0 := Keep.fresh hK0 hk96 (by intro i hi hs; first | exact hs | exact Or.inl hs | exact Or.inr hs | (exfalso; have hs2 : i = b5 := hs; omega))
 refine Os 3 [(10, pt b5), (11, nt 0)] ?_
 refine Oe ?_
 refine V_ret ?_
 have hpb : ¬ passB (trkA ts x.track) y iss (w64 (now - x.since)) = false := by simpa using hc39
 have hu : tillI ts x y iss now = x.till := by unfold tillI; rw [if_neg hpb, if_neg hc56]
 have hw1 : w64 (now - x.since) = IntKind.i64.wrap (now - x.since) := rfl
 have hw2 : w64 (now + (trkA ts x.track).confirm) = IntKind.i64.wrap (now + (trkA ts x.track).confirm) := rfl
 have hY : decY ts x y iss now = { x with till := x.till } := by unfold decY; rw [if_neg hc7, hu]
 have hE : decE ts x y iss now = 0 := by unfold decE; rw [if_neg hc7, hu]; (repeat' split) <;> first | rfl | (exfalso; omega)
 exact leave0 (.tuple #[.agg (Rfm.cells x).toArray, .int .i64 0]) (.inl rfl) (res_agg_tmp (m := 45) rfl rfl rfl (by kernel_rfl) hb5_98 rfl) ⟨by rw [hY, hE] <;> rfl, hK0⟩
end Go.Al


namespace Go.Al
open Go Go.RowKit Go.Proofs
section
variable {xs : List Acc} {cs : List Ci} {s : VS} {ts : List Trk} {rs : List Rfm} {who of after ref now st : Int}
theorem endR_at (h : getR rs ref = some (getA rs ref)) : getR (endR s rs ref st now) ref = some (endY s (getA rs ref) ref st now) ∧ getA (endR s rs ref st now) ref = endY s (getA rs ref) ref st now ∧ (endR s rs ref st now).length = rs.length := by
  have e1 : getR (endR s rs ref st now) ref = some (endY s (getA rs ref) ref st now) := by
    unfold getR at h
    split at h
    · rename_i hr
      unfold getR endR
      rw [List.length_set, if_pos hr, List.getElem?_set_self (by omega)]
    · cases h
  exact ⟨e1, by unfold getA; rw [e1]; unfold getA at *; rfl, by unfold endR; rw [List.length_set]⟩
theorem ong_some (h : ongE rs ref = 0) : getR rs ref = some (getA rs ref) := by
  unfold ongE at h
  cases hx : getR rs ref with
  | none => rw [hx] at h; cases h
  | some x => unfold getA; rw [hx]; rfl
theorem can_no {k : Int} (h : ongE rs ref = k) (hk : k ≠ 0) : canR s rs ref now = rs ∧ canS s rs ref now = s ∧ canL rs ref = [] ∧ kilX xs ts rs ref = xs ∧ kilS s rs ref now = s ∧ kilR s rs ref now = rs ∧ kilL xs ts rs ref = [] := by
  unfold canR canS canL kilX kilS kilR kilL
  simp only [h, if_neg hk, and_self]
theorem can_go (h : ongE rs ref = 0) : canR s rs ref now = endR s rs ref 5 now ∧ canS s rs ref now = closeS s ref 5 now ∧ canL rs ref = [Evt.mk 1 ref 5] := by
  unfold canR canS canL
  simp only [h, if_true, and_self]
theorem kil_go (h : ongE rs ref = 0) : kilX xs ts rs ref = kilX2 (kilX1 xs (getA rs ref)) ts (getA rs ref) ∧ kilS s rs ref now = closeS s ref 6 now ∧ kilR s rs ref now = rs.set ref.toNat { endY s (getA rs ref) ref 6 now with put := false, backer := -1 } ∧ kilL xs ts rs ref = [Evt.mk 1 ref 6] ++ kilL1 xs (getA rs ref) ++ kilL2 (kilX1 xs (getA rs ref)) ts (getA rs ref) := by
  unfold kilX kilS kilR kilL
  simp only [h, if_true, and_self]
end

set_option maxRecDepth 10000 in
set_option maxHeartbeats 1000000 in
theorem ends_spec (H : Nat → Prop) (r g : Nat) (ts : List Trk) (rs : List Rfm) (F : Nat → Prop) (v : Nat) (s : VS) (ref st now : Int) (w : World) (hR : Rfr H w r g ts rs) (hV : VotT F w v s) (hHF : ∀ q, H q → ¬ F q) (hx : getR rs ref = some (getA rs ref)) : Calls Tryz.prog 52 #[.pointer (some ⟨r, 0, none⟩), .pointer (some ⟨v, 0, none⟩), .int .i64 ref, .int .i64 st, .int .i64 now] w fun e w' => e = .returned (.agg (Evt.mk 1 ref st).cells.toArray) ∧ (∃ H' F', Rfr H' w' r g ts (endR s rs ref st now) ∧ VotT F' w' v (closeS s ref st now) ∧ (∀ q, H' q → H q ∨ w.heap.size ≤ q) ∧ (∀ q, F' q → F q ∨ w.heap.size ≤ q) ∧ (∀ q, H' q → ¬ F' q)) ∧ Keep (fun q => q = g ∨ F q) w w' := by
 have hHlt := Rfr.lt hR
 have hrH := Rfr.at_ hR
 have hgH := Rfr.atg hR
 have hrlt := hHlt _ hrH
 have hglt := hHlt _ hgH
 have hin := Rfr.inn hR
 obtain ⟨A, cap, hr, hA, hAo, hrg⟩ := Rfr.parts hR
 have hAlt := SlT.lt hA
 have hAr : ∀ q, inA A q → q ≠ r ∧ q ≠ g ∧ q < w.heap.size := fun q hq => ⟨(hAo q hq).2.1, (hAo q hq).2.2, hAlt q hq⟩
 have hgo : ∀ q, only g q → q ≠ r ∧ q = g := fun q hq => ⟨fun e => hrg (e.symm.trans hq), hq⟩
 have hgl : ∀ q, only g q → q < w.heap.size := fun q hq => by rw [show q = g from hq]; exact hglt
 have hHo : ∀ q, H q → 0 ≤ q := fun q _ => Nat.zero_le q
 have htl := hin.tl
 have hrl := hin.rl
 have hFlt := VotT.lt hV
 have hvlt := hFlt _ (VotT.at_ hV)
 have hVr : ∀ q, F q → q ≠ r := fun q hq e => hHF r hrH (e ▸ hq)
 have hHr : ∀ q, H q → H q ∨ w.heap.size ≤ q := fun _ h => .inl h
 have hFr : ∀ q, F q → F q ∨ w.heap.size ≤ q := fun _ h => .inl h
 obtain ⟨href, htr, hrat⟩ := getA_at hin hx
 obtain ⟨jt, hjt, hjl, htk, htm⟩ := trkA_at htr
 have hokt := hin.tok _ htm
 have hdep : 0 ≤ (trkA ts (getA rs ref).track).deposit ∧ (trkA ts (getA rs ref).track).deposit ≤ 1073741824 := hokt.2.1
 have hK0 : Keep (fun q => q = g ∨ F q) w w := Keep.refl _ _
 have hzhK0 := Keep.size hK0
 refine enterM Tryz.func52 rfl [pt r, pt v, nt ref, nt st, nt now] 42 rfl rfl rfl ?_
 refine V_pick [(0, pt r), (1, pt v), (2, nt ref), (3, nt st), (4, nt now)] rfl ?_
 refine Vr ?_
 refine OI_alloc 53 (.agg #[nt 0, nt 0, nt 0]) [nt 0, nt 0, nt 0] (some 10) (by kernel_rfl) (by kernel_rfl) (by kernel_rfl) ?_
 intro b1 w1 e1 hb1 k1 z1
 have hsz2 := Keep.size k1
 replace hr := hr.keep k1 (fun f => f)
 replace hA := SlT.keep0 hA k1
 replace hR := Rfr.keep hR k1 (fun _ _ f => f)
 replace hV := VotT.keep hV k1 (fun _ _ f => f)
 replace hK0 := Keep.tr hK0 (Keep.ofNone k1)
 have hb1lt := hb1.lt
 refine Oer ?_
 refine Os 2 [(0, pt r), (1, pt v), (2, nt ref), (3, nt st), (4, nt now), (10, pt b1), (14, pt r), (15, nt ref)] ?_
 refine Ok { callee := (Callee.value (Operand.func 23)), args := #[(Operand.tmp 14), (Operand.tmp 15)], argTypes := #[34, 3] } 23 #[pt r, nt ref] (some 16) (rget_spec H r g ts rs ref _ hR) ?_
 rintro _ w3 ⟨rfl, hk4⟩
 refine ⟨_, rfl, ?_⟩
 have hsz5 := Keep.size hk4
 replace hr := hr.keep hk4 (fun f => f)
 replace hb1 := hb1.keep hk4 (fun f => f)
 replace hA := SlT.keep0 hA hk4
 replace hR := Rfr.keep hR hk4 (fun _ _ f => f)
 replace hV := VotT.keep hV hk4 (fun _ _ f => f)
 replace hK0 := Keep.tr hK0 (Keep.ofNone hk4)
 refine Os 6 [(0, pt r), (1, pt v), (2, nt ref), (3, nt st), (4, nt now), (10, pt b1), (17, .agg (Rfm.cells (getA rs ref)).toArray), (18, .bool ((getR rs ref).isSome))] ?_
 refine OI_alloc 57 (.agg (Rfm.cells Rfm.zero).toArray) (Rfm.cells Rfm.zero) (some 11) (by kernel_rfl) (by kernel_rfl) (by kernel_rfl) ?_
 intro b6 w6 e6 hb6 k6 z6
 have hsz7 := Keep.size k6
 replace hr := hr.keep k6 (fun f => f)
 replace hb1 := hb1.keep k6 (fun f => f)
 replace hA := SlT.keep0 hA k6
 replace hR := Rfr.keep hR k6 (fun _ _ f => f)
 replace hV := VotT.keep hV k6 (fun _ _ f => f)
 replace hK0 := Keep.tr hK0 (Keep.ofNone k6)
 have hb6lt := hb6.lt
 refine OI_set (m := 45) (kd := true) 57 (.tmp 11) (.tmp 17) 0 (.agg (Rfm.cells (getA rs ref)).toArray) (Rfm.cells (getA rs ref)) none (by kernel_rfl) (by kernel_rfl) (by kernel_rfl) hb6 (by kernel_rfl) rfl (Rfm.len _) (Nat.le_of_ble_eq_true (by kernel_rfl)) (Rfm.one _) ?_
 intro w8 hb6_11 hk9 hz10
 replace hb6_11 : Blk w8 b6 (Rfm.cells (getA rs ref)) 57 := (Blk.eqL (Rfm.over _ _) hb6_11)
 have hsz12 := Keep.size hk9
 replace hr := hr.keep hk9 (by show ¬ (_ = _); omega)
 replace hb1 := hb1.keep hk9 (by show ¬ (_ = _); omega)
 replace hA := SlT.keep hA hk9 (fun q hq hs => by have hs : q = b6 := hs; have g0 := hAr q hq; have g1 := hAlt q hq; omega)
 replace hR := Rfr.keep hR hk9 (fun q hq hs => by have hs : q = b6 := hs; have g0 := hHo q hq; have g1 := hHlt q hq; omega)
 replace hV := VotT.keep hV hk9 (fun q hq hs => by have hs : q = b6 := hs; have g0 := hVr q hq; have g1 := hFlt q hq; omega)
 replace hK0 := Keep.fresh hK0 hk9 (by intro i hi hs; first | exact hs | exact Or.inl hs | exact Or.inr hs | (exfalso; have hs2 : i = b6 := hs; omega))
 refine Os 9 [(0, pt r), (1, pt v), (2, nt ref), (3, nt st), (4, nt now), (10, pt b1), (11, pt b6)] ?_
 refine Oer ?_
 refine Os 4 [(0, pt r), (1, pt v), (2, nt ref), (3, nt st), (4, nt now), (10, pt b1), (11, pt b6), (19, nt st), (20, nt now), (21, pt v), (22, nt ref)] ?_
 refine Ok { callee := (Callee.value (Operand.func 32)), args := #[(Operand.tmp 21), (Operand.tmp 22)], argTypes := #[33, 3] } 32 #[pt v, nt ref] (some 23) (tally_spec F v s ref _ (hV).1) ?_
 rintro _ w13 ⟨rfl, hk14⟩
 refine ⟨_, rfl, ?_⟩
 have hsz15 := Keep.size hk14
 replace hr := hr.keep hk14 (fun f => f)
 replace hb1 := hb1.keep hk14 (fun f => f)
 replace hb6_11 := hb6_11.keep hk14 (fun f => f)
 replace hA := SlT.keep0 hA hk14
 replace hR := Rfr.keep hR hk14 (fun _ _ f => f)
 replace hV := VotT.keep hV hk14 (fun _ _ f => f)
 replace hK0 := Keep.tr hK0 (Keep.ofNone hk14)
 refine Os 6 [(0, pt r), (1, pt v), (2, nt ref), (3, nt st), (4, nt now), (10, pt b1), (11, pt b6), (19, nt st), (20, nt now), (23, .agg (Tly.cells (tallyT s ref)).toArray), (24, pt b6)] ?_
 refine OI_set (m := 1) (kd := false) 3 (.tmp 24) (.tmp 19) 0 (nt st) [nt st] none (by kernel_rfl) (by kernel_rfl) (by kernel_rfl) hb6_11 (by kernel_rfl) (by kernel_rfl) (by kernel_rfl) (Nat.le_of_ble_eq_true (by kernel_rfl)) (by simp [Value.oneCell']) ?_
 intro w16 hb6_19 hk17 hz18
 replace hb6_19 : Blk w16 b6 (Rfm.cells { (getA rs ref) with state := st }) 57 := (Blk.eqL (by kernel_rfl) hb6_19)
 have hsz20 := Keep.size hk17
 replace hr := hr.keep hk17 (by show ¬ (_ = _); omega)
 replace hb1 := hb1.keep hk17 (by show ¬ (_ = _); omega)
 replace hA := SlT.keep hA hk17 (fun q hq hs => by have hs : q = b6 := hs; have g0 := hAr q hq; have g1 := hAlt q hq; omega)
 replace hR := Rfr.keep hR hk17 (fun q hq hs => by have hs : q = b6 := hs; have g0 := hHo q hq; have g1 := hHlt q hq; omega)
 replace hV := VotT.keep hV hk17 (fun q hq hs => by have hs : q = b6 := hs; have g0 := hVr q hq; have g1 := hFlt q hq; omega)
 replace hK0 := Keep.fresh hK0 hk17 (by intro i hi hs; first | exact hs | exact Or.inl hs | exact Or.inr hs | (exfalso; have hs2 : i = b6 := hs; omega))
 refine Os 8 [(0, pt r), (1, pt v), (2, nt ref), (3, nt st), (4, nt now), (10, pt b1), (11, pt b6), (20, nt now), (23, .agg (Tly.cells (tallyT s ref)).toArray), (25, .pointer (some ⟨b6, 41, none⟩))] ?_
 refine OI_set (m := 1) (kd := false) 3 (.tmp 25) (.tmp 20) 41 (nt now) [nt now] none (by kernel_rfl) (by kernel_rfl) (by kernel_rfl) hb6_19 (by kernel_rfl) (by kernel_rfl) (by kernel_rfl) (Nat.le_of_ble_eq_true (by kernel_rfl)) (by simp [Value.oneCell']) ?_
 intro w21 hb6_24 hk22 hz23
 replace hb6_24 : Blk w21 b6 (Rfm.cells { (getA rs ref) with state := st, stop := now }) 57 := (Blk.eqL (by kernel_rfl) hb6_24)
 have hsz25 := Keep.size hk22
 replace hr := hr.keep hk22 (by show ¬ (_ = _); omega)
 replace hb1 := hb1.keep hk22 (by show ¬ (_ = _); omega)
 replace hA := SlT.keep hA hk22 (fun q hq hs => by have hs : q = b6 := hs; have g0 := hAr q hq; have g1 := hAlt q hq; omega)
 replace hR := Rfr.keep hR hk22 (fun q hq hs => by have hs : q = b6 := hs; have g0 := hHo q hq; have g1 := hHlt q hq; omega)
 replace hV := VotT.keep hV hk22 (fun q hq hs => by have hs : q = b6 := hs; have g0 := hVr q hq; have g1 := hFlt q hq; omega)
 replace hK0 := Keep.fresh hK0 hk22 (by intro i hi hs; first | exact hs | exact Or.inl hs | exact Or.inr hs | (exfalso; have hs2 : i = b6 := hs; omega))
 refine Os 10 [(0, pt r), (1, pt v), (2, nt ref), (3, nt st), (4, nt now), (10, pt b1), (11, pt b6), (23, .agg (Tly.cells (tallyT s ref)).toArray), (26, .pointer (some ⟨b6, 42, none⟩))] ?_
 refine OI_set (m := 3) (kd := true) 55 (.tmp 26) (.tmp 23) 42 (.agg (Tly.cells (tallyT s ref)).toArray) (Tly.cells (tallyT s ref)) none (by kernel_rfl) (by kernel_rfl) (by kernel_rfl) hb6_24 (by kernel_rfl) rfl (Tly.len _) (Nat.le_of_ble_eq_true (by kernel_rfl)) (Tly.one _) ?_
 intro w26 hb6_29 hk27 hz28
 replace hb6_29 : Blk w26 b6 (Rfm.cells { (getA rs ref) with state := st, stop := now, t := (tallyT s ref) }) 57 := (Blk.eqL (by kernel_rfl) hb6_29)
 have hsz30 := Keep.size hk27
 replace hr := hr.keep hk27 (by show ¬ (_ = _); omega)
 replace hb1 := hb1.keep hk27 (by show ¬ (_ = _); omega)
 replace hA := SlT.keep hA hk27 (fun q hq hs => by have hs : q = b6 := hs; have g0 := hAr q hq; have g1 := hAlt q hq; omega)
 replace hR := Rfr.keep hR hk27 (fun q hq hs => by have hs : q = b6 := hs; have g0 := hHo q hq; have g1 := hHlt q hq; omega)
 replace hV := VotT.keep hV hk27 (fun q hq hs => by have hs : q = b6 := hs; have g0 := hVr q hq; have g1 := hFlt q hq; omega)
 replace hK0 := Keep.fresh hK0 hk27 (by intro i hi hs; first | exact hs | exact Or.inl hs | exact Or.inr hs | (exfalso; have hs2 : i = b6 := hs; omega))
 refine Oe ?_
 refine V_seq ?_
 refine V_draws (acts [6]) none_ [[0, 1, 2, 3, 4, 5, 6]] (by kernel_rfl) (by repeat first | exact (by first | exact sure_postM | exact sure_rQ2 | exact sure_no) | refine sure_then ?_ | refine sure_block ?_ | refine sure_join ?_) (by kernel_rfl) ?_
 intro w32 hk31 he33 L hL34
 have hsz35 := Keep.size hk31
 replace hr := hr.keep hk31 (fun f => f)
 replace hb1 := hb1.keep hk31 (fun f => f)
 replace hb6_29 := hb6_29.keep hk31 (fun f => f)
 replace hA := SlT.keep0 hA hk31
 replace hR := Rfr.keep hR hk31 (fun _ _ f => f)
 replace hV := VotT.keep hV hk31 (fun _ _ f => f)
 replace hK0 := Keep.tr hK0 (Keep.ofNone hk31)
 have qhr := hr
 have qhb1 := hb1
 have qhb6_29 := hb6_29
 have K36 : Keep none_ w32 w32 := Keep.refl _ _
 obtain rfl := List.mem_singleton.1 hL34
 refine Gs [3, 4, 5, 6] [(1, pt v), (2, nt ref), (3, nt st), (4, nt now), (10, pt b1), (11, pt b6), (29, .pointer (some ⟨r, 1, none⟩))] ?_
 refine Gc0 95 (.tmp 29) 1 (pt g) (some 30) qhr rfl ?_
 refine Gs [5, 6] [(1, pt v), (2, nt ref), (3, nt st), (4, nt now), (10, pt b1), (11, pt b6), (30, pt g), (31, nt ref)] ?_
 refine Ga 57 (.tmp 11) 0 (Rfm.cells { (getA rs ref) with state := st, stop := now, t := (tallyT s ref) }) (some 32) 45 qhb6_29 (fun f => f) (take_all (Rfm.len _)) (Rfm.len _) ?_
 refine GI_final 6 (by kernel_rfl) (by kernel_rfl) ?_
 refine Ok { callee := (Callee.value (Operand.func 45)), args := #[(Operand.tmp 30), (Operand.const (Value.int IntKind.i64 0)), (Operand.tmp 31), (Operand.tmp 32)], argTypes := #[95, 3, 3, 57] } 45 #[pt g, nt 0, nt ref, .agg (Rfm.cells { (getA rs ref) with state := st, stop := now, t := (tallyT s ref) }).toArray] (some 33) (rset_spec H r g ts rs ref ({ (getA rs ref) with state := st, stop := now, t := (tallyT s ref) }) _ hR href htr) ?_
 rintro _ w39 ⟨rfl, ⟨H41, hR42, hfr43⟩, hk40⟩
 refine ⟨_, rfl, ?_⟩
 have hsz44 := Keep.size hk40
 replace hr := hr.keep hk40 (fun hs => by have h1 := hgo _ hs; have h2 := hgl _ hs; omega)
 replace hb1 := hb1.keep hk40 (fun hs => by have h1 := hgo _ hs; have h2 := hgl _ hs; omega)
 replace hb6_29 := hb6_29.keep hk40 (fun hs => by have h1 := hgo _ hs; have h2 := hgl _ hs; omega)
 replace hA := SlT.keep hA hk40 (fun q hq hs => (fun q h1 h2 => (hAo q h2).2.2 h1) q hs hq)
 replace hV := VotT.keep hV hk40 (fun q hq hs => (fun q h1 h2 => hHF q (by rw [show q = g from h1]; exact hgH) h2) q hs hq)
 replace hK0 := Keep.fresh hK0 hk40 (by intro i hi hs; first | exact hs | (exfalso; have h1 := hgo i hs; have h2 := hgl i hs; omega) | (have h1 := hgo i hs; have h2 := hgl i hs; show _ ∨ _; omega))
 have own46 : ∀ q, H41 q → 0 ≤ q ∧ q ≠ b1 ∧ q ≠ b6 := fun q hq => by rcases hfr43 q hq with h | h; (have h1 := hHo q h; have h2 := hHlt q h; omega); omega
 have lt45 := Rfr.lt hR42
 have rel47 : ∀ q, H41 q → H q ∨ w.heap.size ≤ q := fun q hq => by rcases hfr43 q hq with h | h; exact hHr q h; exact .inr (by omega)
 have dis48 : ∀ q, H41 q → ¬ F q := fun q h1 h2 => by rcases hfr43 q h1 with h | h; exact hHF q h h2; (have h4 := hFlt q h2; omega)
 refine Oer ?_
 refine Os 4 [(2, nt ref), (3, nt st), (10, pt b1), (34, pt v), (35, nt ref), (36, nt st), (37, nt now)] ?_
 refine Ok { callee := (Callee.value (Operand.func 42)), args := #[(Operand.tmp 34), (Operand.tmp 35), (Operand.tmp 36), (Operand.tmp 37)], argTypes := #[33, 3, 3, 3] } 42 #[pt v, nt ref, nt st, nt now] (some 38) (close_specT F v s ref st now _ hV) ?_
 rintro _ w51 ⟨rfl, ⟨F53, ho54, hfr55⟩, hk52⟩
 refine ⟨_, rfl, ?_⟩
 have hsz56 := Keep.size hk52
 replace hr := hr.keep hk52 (fun hs => by have h1 := hVr _ hs; have h2 := hFlt _ hs; omega)
 replace hb1 := hb1.keep hk52 (fun hs => by have h1 := hVr _ hs; have h2 := hFlt _ hs; omega)
 replace hb6_29 := hb6_29.keep hk52 (fun hs => by have h1 := hVr _ hs; have h2 := hFlt _ hs; omega)
 replace hA := SlT.keep hA hk52 (fun q hq hs => (fun q h1 h2 => hHF q (hAo q h2).1 h1) q hs hq)
 replace hK0 := Keep.fresh hK0 hk52 (fun i hi hs => by rcases hFr i hs with h | h; exact .inr <| h; (exfalso; omega))
 replace hR42 := Rfr.keep hR42 hk52 (fun q hq hs => (fun q h1 h2 => dis48 q h2 h1) q hs hq)
 have own58 : ∀ q, F53 q → q ≠ r ∧ q ≠ r ∧ q ≠ b1 ∧ q ≠ b6 := fun q hq => by rcases hfr55 q hq with h | h; (have h1 := hVr q h; have h2 := hFlt q h; omega); omega
 have lt57 := VotT.lt ho54
 have rel59 : ∀ q, F53 q → F q ∨ w.heap.size ≤ q := fun q hq => by rcases hfr55 q hq with h | h; exact hFr q h; exact .inr (by omega)
 have dis60 : ∀ q, F53 q → ¬ inA A q := fun q h1 h2 => by rcases hfr55 q h1 with h | h; exact (fun q h1 h2 => hHF q (hAo q h2).1 h1) q h h2; (have h4 := hAlt q h2; omega)
 have dis61 : ∀ q, F53 q → ¬ H41 q := fun q h1 h2 => by rcases hfr55 q h1 with h | h; exact (fun q h1 h2 => dis48 q h2 h1) q h h2; (have h4 := lt45 q h2; omega)
 refine Oer ?_
 refine Os 3 [(10, pt b1), (41, .agg #[nt 1, nt ref, nt st])] ?_
 refine OI_set (m := 3) (kd := true) 53 (.tmp 10) (.tmp 41) 0 (.agg #[nt 1, nt ref, nt st]) [nt 1, nt ref, nt st] none (by kernel_rfl) (by kernel_rfl) (by kernel_rfl) hb1 (by kernel_rfl) (by kernel_rfl) (by kernel_rfl) (Nat.le_of_ble_eq_true (by kernel_rfl)) (by simp [Value.oneCell']) ?_
 intro w62 hb1_65 hk63 hz64
 replace hb1_65 : Blk w62 b1 [nt 1, nt ref, nt st] 53 := hb1_65
 have hsz66 := Keep.size hk63
 replace hr := hr.keep hk63 (by show ¬ (_ = _); omega)
 replace hb6_29 := hb6_29.keep hk63 (by show ¬ (_ = _); omega)
 replace hA := SlT.keep hA hk63 (fun q hq hs => by have hs : q = b1 := hs; have g0 := hAr q hq; have g1 := hAlt q hq; omega)
 replace hK0 := Keep.fresh hK0 hk63 (by intro i hi hs; first | exact hs | exact Or.inl hs | exact Or.inr hs | (exfalso; have hs2 : i = b1 := hs; omega))
 replace hR42 := Rfr.keep hR42 hk63 (fun q hq hs => by have hs : q = b1 := hs; have g0 := own46 q hq; have g1 := lt45 q hq; omega)
 replace ho54 := VotT.keep ho54 hk63 (fun q hq hs => by have hs : q = b1 := hs; have g0 := own58 q hq; have g1 := lt57 q hq; omega)
 refine Oe ?_
 refine V_ret ?_
 exact leave0 (.agg [nt 1, nt ref, nt st].toArray) (.inl rfl) (res_agg1 (m := 3) rfl rfl (by kernel_rfl) hb1_65 rfl) ⟨rfl, ⟨H41, F53, hR42, ho54, rel47, rel59, (fun q h1 h2 => dis61 q h2 h1)⟩, hK0⟩

set_option maxRecDepth 10000 in
set_option maxHeartbeats 1000000 in
theorem cancel_spec (H : Nat → Prop) (r g : Nat) (ts : List Trk) (rs : List Rfm) (F : Nat → Prop) (v : Nat) (s : VS) (ref now : Int) (w : World) (hR : Rfr H w r g ts rs) (hV : VotT F w v s) (hHF : ∀ q, H q → ¬ F q) : Calls Tryz.prog 24 #[.pointer (some ⟨r, 0, none⟩), .pointer (some ⟨v, 0, none⟩), .int .i64 ref, .int .i64 now] w fun e w' => ∃ A' cap', e = .returned (.tuple #[.slice A' (canL rs ref).length cap', .int .i64 (ongE rs ref)]) ∧ SlT w' 3 Evt.cells A' cap' (canL rs ref) ∧ (∀ q, inA A' q → w.heap.size ≤ q) ∧ (∃ H' F', Rfr H' w' r g ts (canR s rs ref now) ∧ VotT F' w' v (canS s rs ref now) ∧ (∀ q, H' q → H q ∨ w.heap.size ≤ q) ∧ (∀ q, F' q → F q ∨ w.heap.size ≤ q) ∧ (∀ q, H' q → ¬ F' q) ∧ (∀ q, inA A' q → ¬ H' q) ∧ (∀ q, inA A' q → ¬ F' q)) ∧ Keep (fun q => q = g ∨ F q) w w' := by
 have hHlt := Rfr.lt hR
 have hrH := Rfr.at_ hR
 have hgH := Rfr.atg hR
 have hrlt := hHlt _ hrH
 have hglt := hHlt _ hgH
 have hin := Rfr.inn hR
 obtain ⟨A, cap, hr, hA, hAo, hrg⟩ := Rfr.parts hR
 have hAlt := SlT.lt hA
 have hAr : ∀ q, inA A q → q ≠ r ∧ q ≠ g ∧ q < w.heap.size := fun q hq => ⟨(hAo q hq).2.1, (hAo q hq).2.2, hAlt q hq⟩
 have hgo : ∀ q, only g q → q ≠ r ∧ q = g := fun q hq => ⟨fun e => hrg (e.symm.trans hq), hq⟩
 have hgl : ∀ q, only g q → q < w.heap.size := fun q hq => by rw [show q = g from hq]; exact hglt
 have hHo : ∀ q, H q → 0 ≤ q := fun q _ => Nat.zero_le q
 have htl := hin.tl
 have hrl := hin.rl
 have hFlt := VotT.lt hV
 have hvlt := hFlt _ (VotT.at_ hV)
 have hVr : ∀ q, F q → q ≠ r := fun q hq e => hHF r hrH (e ▸ hq)
 have hHr : ∀ q, H q → H q ∨ w.heap.size ≤ q := fun _ h => .inl h
 have hFr : ∀ q, F q → F q ∨ w.heap.size ≤ q := fun _ h => .inl h
 have hK0 : Keep (fun q => q = g ∨ F q) w w := Keep.refl _ _
 have hzhK0 := Keep.size hK0
 refine enterV Tryz.func24 rfl [pt r, pt v, nt ref, nt now] 29 rfl rfl rfl ?_
 refine V_pick [(0, pt r), (1, pt v), (2, nt ref), (3, nt now)] rfl ?_
 refine Vr ?_
 refine Os 2 [(0, pt r), (1, pt v), (2, nt ref), (3, nt now)] ?_
 refine Oe ?_
 refine V_seq ?_
 refine Vr ?_
 refine Os 6 [(0, pt r), (1, pt v), (2, nt ref), (3, nt now), (16, .bool false)] ?_
 refine Oe ?_
 refine V_false rfl ?_
 refine V_skip ?_
 refine X_then ?_
 refine V_seq ?_
 refine Vr ?_
 refine Os 2 [(0, pt r), (1, pt v), (2, nt ref), (3, nt now), (17, pt r), (18, nt ref)] ?_
 refine Ok { callee := (Callee.value (Operand.func 54)), args := #[(Operand.tmp 17), (Operand.tmp 18)], argTypes := #[34, 3] } 54 #[pt r, nt ref] (some 19) (ongoing_spec H r g ts rs ref _ hR) ?_
 rintro _ w1 ⟨rfl, hk2⟩
 refine ⟨_, rfl, ?_⟩
 have hsz3 := Keep.size hk2
 replace hr := hr.keep hk2 (fun f => f)
 replace hA := SlT.keep0 hA hk2
 replace hR := Rfr.keep hR hk2 (fun _ _ f => f)
 replace hV := VotT.keep hV hk2 (fun _ _ f => f)
 replace hK0 := Keep.tr hK0 (Keep.ofNone hk2)
 refine Os 4 [(0, pt r), (1, pt v), (2, nt ref), (3, nt now), (10, nt (ongE rs ref))] ?_
 refine Oer ?_
 refine Os 2 [(0, pt r), (1, pt v), (2, nt ref), (3, nt now), (10, nt (ongE rs ref)), (21, .bool (!(decide (ongE rs ref = 0))))] ?_
 refine Oe ?_
 refine V_not (ongE rs ref = 0) (by kernel_rfl) (fun hc4 => ?_) (fun hc4 => ?_)
 ·
  refine Vr ?_
  refine Os 3 [(8, .slice none 0 0), (9, nt (ongE rs ref))] ?_
  refine Oe ?_
  refine V_ret ?_
  refine X_ret_then ?_
  obtain ⟨h15, h25, h35, _⟩ := can_no (s := s) (now := now) (xs := []) (ts := ts) (rs := rs) (ref := ref) rfl hc4
  exact X_return (.tuple #[.slice none 0 0, nt (ongE rs ref)]) rfl ⟨none, 0, by rw [h35]; rfl, by rw [h35]; exact SlT.nil _ _ _, (fun q h => (inA_none h).elim), ⟨H, F, (by rw [h15]; exact hR), (by rw [h25]; exact hV), hHr, hFr, hHF, fun q h => (inA_none h).elim, fun q h => (inA_none h).elim⟩, hK0⟩
 refine V_skip ?_
 refine X_then ?_
 refine Vr ?_
 refine Os 4 [(23, pt r), (24, pt v), (25, nt ref), (26, nt now)] ?_
 refine Ok { callee := (Callee.value (Operand.func 52)), args := #[(Operand.tmp 23), (Operand.tmp 24), (Operand.tmp 25), (Operand.const (Value.int IntKind.i64 5)), (Operand.tmp 26)], argTypes := #[34, 33, 3, 3, 3] } 52 #[pt r, pt v, nt ref, nt 5, nt now] (some 27) (ends_spec H r g ts rs F v s ref 5 now _ hR hV hHF (ong_some hc4)) ?_
 rintro _ w6 ⟨rfl, ⟨F8, F11, ho9, ho12, hfr10, hfr13, hdis14⟩, hk7⟩
 refine ⟨_, rfl, ?_⟩
 have hsz15 := Keep.size hk7
 replace hr := hr.keep hk7 (fun hs => by rcases hs with hs | hs; (have u0 := hgo _ hs; have u1 := hgl _ hs; omega); (have u0 := hVr _ hs; have u1 := hFlt _ hs; omega))
 replace hA := SlT.keep hA hk7 (fun q hq hs => by rcases hs with hs | hs; exact (hAo q hq).2.2 hs; exact (fun q h1 h2 => hHF q (hAo q h1).1 h2) q hq hs)
 replace hK0 := Keep.fresh hK0 hk7 (fun i hi hs => by rcases hs with hs | hs; (exact .inl hs); (rcases hFr i hs with h | h; exact .inr <| h; (exfalso; omega)))
 have own17 : ∀ q, F8 q → 0 ≤ q := fun q hq => by rcases hfr10 q hq with h | h; (have h1 := hHo q h; have h2 := hHlt q h; omega); omega
 have lt16 := Rfr.lt ho9
 have rel18 : ∀ q, F8 q → H q ∨ w.heap.size ≤ q := fun q hq => by rcases hfr10 q hq with h | h; exact hHr q h; exact .inr (by omega)
 have own20 : ∀ q, F11 q → q ≠ r ∧ q ≠ r := fun q hq => by rcases hfr13 q hq with h | h; (have h1 := hVr q h; have h2 := hFlt q h; omega); omega
 have lt19 := VotT.lt ho12
 have rel21 : ∀ q, F11 q → F q ∨ w.heap.size ≤ q := fun q hq => by rcases hfr13 q hq with h | h; exact hFr q h; exact .inr (by omega)
 have dis22 : ∀ q, F11 q → ¬ inA A q := fun q h1 h2 => by rcases hfr13 q h1 with h | h; exact (fun q h1 h2 => hHF q (hAo q h2).1 h1) q h h2; (have h4 := hAlt q h2; omega)
 refine OI_slit (E := 53) (zv := .agg #[nt 0, nt 0, nt 0]) (sz := 3) (by_ := 24) 50 1 #[(0, (Operand.tmp 27))] [.agg (Evt.cells (Evt.mk 1 ref 5)).toArray] (Evt.cells (Evt.mk 1 ref 5)) (some 28) (by kernel_rfl) (by kernel_rfl) (by kernel_rfl) (by omega) rfl (by omega) (by intro v hv; obtain rfl := List.mem_singleton.1 hv; show (Evt.cells (Evt.mk 1 ref 5)).toArray.size = 3; simp [Evt.len]) (by kernel_rfl) (by show (Evt.cells (Evt.mk 1 ref 5)).toArray.toList ++ [] = _; simp) ?_
 intro b23 w23 e23 hb23 k23 z23
 have hsz24 := Keep.size k23
 replace hr := hr.keep k23 (fun f => f)
 replace hA := SlT.keep0 hA k23
 replace hK0 := Keep.tr hK0 (Keep.ofNone k23)
 replace ho9 := Rfr.keep ho9 k23 (fun _ _ f => f)
 replace ho12 := VotT.keep ho12 k23 (fun _ _ f => f)
 have hb23lt := hb23.lt
 refine Os 8 [(8, .slice (some ⟨b23, 0, none⟩) 1 1), (9, nt 0)] ?_
 refine Oe ?_
 refine V_ret ?_
 have hE25 : ongE rs ref = 0 := hc4
 obtain ⟨h125, h225, h325⟩ := can_go (s := s) (now := now) hE25
 exact X_return (.tuple #[.slice (some ⟨b23, 0, none⟩) 1 1, nt 0]) rfl ⟨(some ⟨b23, 0, none⟩), 1, by rw [h325, hE25]; rfl, by rw [h325]; exact slt_blk hb23 Evt.len rfl, (fun q h => by have h3 := inA_some h; omega), ⟨F8, F11, (by rw [h125]; exact ho9), (by rw [h225]; exact ho12), rel18, rel21, hdis14, fun q h1 h2 => by have h3 := inA_some h1; have h4 := lt16 q h2; omega, fun q h1 h2 => by have h3 := inA_some h1; have h4 := lt19 q h2; omega⟩, hK0⟩
end Go.Al

