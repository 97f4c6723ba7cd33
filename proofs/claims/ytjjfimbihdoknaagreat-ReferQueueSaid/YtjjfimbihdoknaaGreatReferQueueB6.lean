/-
  Put together out of 6 texts: Walks of package refer: who waits. Walks of package refer: Submit. Walks of package refer: Deposit, Refund. Walks of package refer: begins. Walks of package refer: decides. Walks of package refer: ends, Cancel.
-/
import Derived.Test.YtjjfimbihdoknaaGreatReferQueueB5
open Go.IntKind (i64)
set_option maxRecDepth 10000
namespace Go.Al
open Go Go.RowKit Go.Proofs
set_option maxHeartbeats 2000000 in
theorem waits_spec (H : Nat → Prop) (r g : Nat) (ts : List Trk) (rs : List Rfm) (F : Nat → Prop) (v : Nat) (s : VS) (j : Nat) (now : Int) (w : World) (hR : Rfr H w r g ts rs) (hV : VotT F w v s) (hHF : ∀ q, H q → ¬ F q) (hj : j < ts.length) : Calls Tryz.prog 103 #[pt r, pt v, nt (j : Int), nt now] w fun e w' => ∃ A' cap', e = .returned (.tuple #[.slice A' (waitL ts (j : Int) now 0 rs).length cap', nt (decN (j : Int) rs)]) ∧ SlT w' 1 intc A' cap' (sortD (fun r => (tallyT s r).a) (waitL ts (j : Int) now 0 rs)) ∧ (∀ q, inA A' q → w.heap.size ≤ q) ∧ Keep none_ w w' := by
 have hHlt := Rfr.lt hR
 have hrH := Rfr.at_ hR
 have hgH := Rfr.atg hR
 have hrlt := hHlt _ hrH
 have hglt := hHlt _ hgH
 have hin := Rfr.inn hR
 obtain ⟨A, cap, hr, hA, hAo, hrg⟩ := Rfr.parts hR
 have hAlt := SlT.lt hA
 have hAr : ∀ q, inA A q → q ≠ r ∧ q ≠ g ∧ q < w.heap.size := fun q hq => ⟨(hAo q hq).2.1, (hAo q hq).2.2, hAlt q hq⟩
 have hgo : ∀ q, only g q → q ≠ r ∧ q = g := fun q hq => ⟨fun e => hrg (e.symm.trans hq), hq⟩
 have hgl : ∀ q, only g q → q < w.heap.size := fun q hq => by rw [show q = g from hq]; exact hglt
 have hHo : ∀ q, H q → 0 ≤ q := fun q _ => Nat.zero_le q
 have htl := hin.tl
 have hrl := hin.rl
 have hFlt := VotT.lt hV
 have hvlt := hFlt _ (VotT.at_ hV)
 have hVr : ∀ q, F q → q ≠ r := fun q hq e => hHF r hrH (e ▸ hq)
 obtain ⟨j9, hjj, _, htk, htm⟩ := trkA_at (ts := ts) (i := (j : Int)) (by omega)
 rw [show j9 = j by omega] at htk
 have hK0 := Keep.refl none_ w
 refine enterM Tryz.func103 rfl [pt r, pt v, nt (j : Int), nt now] 62 rfl rfl rfl ?_
 refine Vp [(0, pt r),(1, pt v),(2, nt (j : Int)),(3, nt now)] <| Vr <| Bx 34 [pt r] ?_
 intro b1 w1 e1 hb1 k1 z1
 have hsz2 := Keep.size k1
 replace hR := hR.keep k1 nk
 replace hV := hV.keep k1 nk
 replace hK0 := hK0.tn k1
 have hb1lt := hb1.lt
 refine Bx 33 [pt v] ?_
 intro b3 w3 e3 hb3 k3 z3
 have hsz4 := Keep.size k3
 replace hR := hR.keep k3 nk
 replace hV := hV.keep k3 nk
 replace hK0 := hK0.tn k3
 have hb3lt := hb3.lt
 refine Bx 3 [nt (j : Int)] ?_
 intro b5 w5 e5 hb5 k5 z5
 have hsz6 := Keep.size k5
 replace hR := hR.keep k5 nk
 replace hV := hV.keep k5 nk
 replace hK0 := hK0.tn k5
 have hb5lt := hb5.lt
 refine Bx 3 [nt now] ?_
 intro b7 w7 e7 hb7 k7 z7
 have hsz8 := Keep.size k7
 replace hR := hR.keep k7 nk
 replace hV := hV.keep k7 nk
 replace hK0 := hK0.tn k7
 have hb7lt := hb7.lt
 refine On 6 [4, 5, 6, 7, 8, 9] <| Oer <| Alc_ 72 (.slice none 0 0) [.slice none 0 0] ?_
 intro b9 w9 e9 hb9 k9 z9
 have hsz10 := Keep.size k9
 replace hR := hR.keep k9 nk
 replace hV := hV.keep k9 nk
 replace hK0 := hK0.tn k9
 have hb9lt := hb9.lt
 refine Oer <| Alc_ 3 (nt 0) [nt 0] ?_
 intro b11 w11 e11 hb11 k11 z11
 have hsz12 := Keep.size k11
 replace hr := hr.k0 (((((k1.tr k3).tr k5).tr k7).tr k9).tr k11)
 replace hb1 := hb1.k0 ((((k3.tr k5).tr k7).tr k9).tr k11)
 replace hb3 := hb3.k0 (((k5.tr k7).tr k9).tr k11)
 replace hb5 := hb5.k0 ((k7.tr k9).tr k11)
 replace hb7 := hb7.k0 (k9.tr k11)
 replace hb9 := hb9.k0 k11
 replace hA := hA.keep0 (((((k1.tr k3).tr k5).tr k7).tr k9).tr k11)
 replace hR := hR.keep k11 nk
 replace hV := hV.keep k11 nk
 replace hK0 := hK0.tn k11
 have hb11lt := hb11.lt
 refine St_ 0 (nt 0) hb11 ?_
 intro w13 hb11_16 hk14 hz15
 replace hb11_16 : Blk w13 b11 [nt 0] 3 := hb11_16
 have hsz17 := Keep.size hk14
 replace hr := hr.k1 hk14
 replace hb1 := hb1.k1 hk14
 replace hb3 := hb3.k1 hk14
 replace hb5 := hb5.k1 hk14
 replace hb7 := hb7.k1 hk14
 replace hb9 := hb9.k1 hk14
 replace hA := hA.keep hk14 (fun q hq hs => by have hs : q = b11 := hs; have g0 := hAr q hq; have g1 := hAlt q hq; omega)
 replace hR := hR.keep hk14 (fun q hq hs => by have hs : q = b11 := hs; have g0 := hHo q hq; have g1 := hHlt q hq; omega)
 replace hV := hV.keep hk14 (fun q hq hs => by have hs : q = b11 := hs; have g0 := hVr q hq; have g1 := hFlt q hq; omega)
 replace hK0 := Keep.fr hK0 hk14
 refine Oe <| V_seq <| Vr <| Lr 0 (pt r) hb1 <| Ok (kl 48 #[(.tmp 14)] #[34]) 48 #[pt r] (some 15) (all_at r g _ _ _ _ hr) ?_
 rintro _ w20 ⟨bg22, bs23, bn24, rfl, hbg22, hbs23, hbn24, hk21, hgebg22, hgebs23, hgebn24⟩
 refine ⟨_, rfl, ?_⟩
 have hsz25 := Keep.size hk21
 replace hr := hr.k0 hk21
 replace hb1 := hb1.k0 hk21
 replace hb3 := hb3.k0 hk21
 replace hb5 := hb5.k0 hk21
 replace hb7 := hb7.k0 hk21
 replace hb9 := hb9.k0 hk21
 replace hb11_16 := hb11_16.k0 hk21
 replace hA := hA.keep0 hk21
 replace hR := hR.keep hk21 nk
 replace hV := hV.keep hk21 nk
 replace hK0 := hK0.tn hk21
 have hbg22lt := hbg22.lt
 have hbs23lt := hbs23.lt
 have hbn24lt := hbn24.lt
 refine Oe <| V_block ?_
 obtain ⟨D, hD9, hDH⟩ := Rfr.grqF hR
 obtain ⟨_, _, _, _, A2, cap2, hat2, hAD2⟩ := hD9
 have hA2 := hat2.sl
 have owA2 : ∀ q, inA A2 q → q < w.heap.size := fun q hq => hHlt q (hDH q (hAD2 q hq))
 refine Vp [(4, pt b1),(5, pt b3),(6, pt b5),(7, pt b7),(10, pt b9),(11, pt b11),(15, .func (.func 183) #[] #[pt bg22, pt bs23, pt bn24])] ?_
 have hN0 : w.heap.size ≤ w20.heap.size := Keep.size hK0
 refine V_range2 (gf := 183) (caps := #[pt bg22, pt bs23, pt bn24]) (m := rs.length) (by kernel_rfl) (by kernel_rfl) (by kernel_rfl) (alongQ bg22 bs23 bn24 g cap2 A2 rs (by omega)) (⟨hbg22, hat2, ⟨hbs23, hbn24, hA2⟩⟩) (fun W W' h k => ⟨h.1.quiet k, h.2.1.quiet k, h.2.2.quiet k⟩) (GQ.enc2_size _) (fun M1 k W => ∃ Ak : Option Addr, ∃ capk : Nat, (Blk W r [.slice A ts.length cap, pt g] 97) ∧ (Blk W b1 [pt r] 34) ∧ (Blk W b3 [pt v] 33) ∧ (Blk W b5 [nt (j : Int)] 3) ∧ (Blk W b7 [nt now] 3) ∧ (Blk W bs23 [nt 0] 3) ∧ (Blk W bn24 [nt 0] 3) ∧ (SlT W 18 Trk.cells A cap ts) ∧ (SlT W 47 GQ.Ci.cells A2 cap2 (cellsQ 0 rs)) ∧ (VotT F W v s) ∧ (Keep none_ w W) ∧ (Blk W b9 [.slice Ak ((waitL ts (j : Int) now 0 (rs.take k)).length) capk] 72) ∧ (Blk W b11 [nt (decN (j : Int) (rs.take k))] 3) ∧ (SlT W 1 intc Ak capk (waitL ts (j : Int) now 0 (rs.take k))) ∧ (∀ q, inA Ak q → M1 ≤ q)) (fun M1 c k W => False) (fun M1 k W W' h hk => by obtain ⟨Ak, capk, jr, jb1, jb3, jb5, jb7, jbs23, jbn24, jA, jA2, jhV, jhK0, jb9, jb11, jAk, ownk⟩ := h; exact ⟨Ak, capk, jr.quiet hk, jb1.quiet hk, jb3.quiet hk, jb5.quiet hk, jb7.quiet hk, jbs23.quiet hk, jbn24.quiet hk, jA.quiet hk, jA2.quiet hk, VotT.quiet jhV hk, jhK0.quiet hk (by omega), jb9.quiet hk, jb11.quiet hk, jAk.quiet hk, ownk⟩) (fun _ _ _ _ _ h _ => h.elim) (fun M1 hM1 => ⟨none, 0, hr, hb1, hb3, hb5, hb7, hbs23, hbn24, hA, hA2, hV, hK0, hb9, hb11_16, SlT.nil _ _ _, fun q h => (inA_none h).elim⟩) (fun M1 k W h => by obtain ⟨Ak, capk, jr, jb1, jb3, jb5, jb7, jbs23, jbn24, jA, jA2, jhV, jhK0, jb9, jb11, jAk, ownk⟩ := h; exact ⟨jbs23, jbn24, jA2⟩) ?_ ?_ (fun _ _ _ _ _ _ _ _ h _ => h.elim)
 ·
  intro lp D M1 k W hD hl hM hMW hkm ⟨Ak, capk, jr, jb1, jb3, jb5, jb7, jbs23, jbn24, jA, jA2, jhV, jhK0, jb9, jb11, jAk, ownk⟩ ⟨rr, hrr⟩ hDD
  have hzjhK0 := Keep.size jhK0
  have hrlt := jr.lt
  have hb1lt := jb1.lt
  have hb3lt := jb3.lt
  have hb5lt := jb5.lt
  have hb7lt := jb7.lt
  have hb9lt := jb9.lt
  have hb11lt := jb11.lt
  have hbs23lt := jbs23.lt
  have hbn24lt := jbn24.lt
  have ltjA := SlT.lt jA
  have ltjA2 := SlT.lt jA2
  have ltjAk := SlT.lt jAk
  obtain ⟨x, hx⟩ : ∃ x, rs[k]? = some x := ⟨_, List.getElem?_eq_getElem (by omega)⟩
  rw [GQ.enc2_at (zipQ_at0 hx)]
  have hst1 := waitL_step (ts := ts) (of := (j : Int)) (now := now) hx
  have hst2 := decN_step (of := (j : Int)) hx
  have hwl : (waitL ts (j : Int) now 0 (rs.take k)).length ≤ 12 := Nat.le_trans (waitL_len _ 0) (by rw [List.length_take]; omega)
  have hdn := decN_bnd (of := (j : Int)) (rs.take k)
  have hdl : (rs.take k).length ≤ 12 := by rw [List.length_take]; omega
  refine Vp [(4, pt b1),(6, pt b5),(7, pt b7),(10, pt b9),(11, pt b11),(16, nt (k : Int)),(17, .agg (Rfm.cells x).toArray)] ?_
  have hfen : Keep (fen w20.heap.size M1) W W := Keep.refl _ _
  have hzhfen := Keep.size hfen
  refine Vs [(4, pt b1),(6, pt b5),(7, pt b7),(10, pt b9),(11, pt b11),(12, nt (k : Int)),(17, .agg (Rfm.cells x).toArray)] <| V_region <| OI_alloc 57 (.agg (Rfm.cells Rfm.zero).toArray) (Rfm.cells Rfm.zero) (some 13) (by kernel_rfl) (by kernel_rfl) (by kernel_rfl) ?_
  intro b26 w26 e26 hb26 k26 z26
  have hsz27 := Keep.size k26
  replace jr := jr.k0 k26
  replace jb1 := jb1.k0 k26
  replace jb3 := jb3.k0 k26
  replace jb5 := jb5.k0 k26
  replace jb7 := jb7.k0 k26
  replace jb9 := jb9.k0 k26
  replace jb11 := jb11.k0 k26
  replace jbs23 := jbs23.k0 k26
  replace jbn24 := jbn24.k0 k26
  replace jA := jA.keep0 k26
  replace jA2 := jA2.keep0 k26
  replace jAk := jAk.keep0 k26
  replace jhV := jhV.keep k26 nk
  replace jhK0 := jhK0.tn k26
  replace hfen := hfen.tn k26
  have hb26lt := hb26.lt
  refine Sg 0 (Rfm.cells x) hb26 (Rfm.len _) (Rfm.one _) ?_
  intro w28 hb26_31 hk29 hz30
  replace hb26_31 : Blk w28 b26 (Rfm.cells x) 57 := (Blk.eqL (Rfm.over _ _) hb26_31)
  have hsz32 := Keep.size hk29
  replace jr := jr.k1 hk29
  replace jb1 := jb1.k1 hk29
  replace jb3 := jb3.k1 hk29
  replace jb5 := jb5.k1 hk29
  replace jb7 := jb7.k1 hk29
  replace jb9 := jb9.k1 hk29
  replace jb11 := jb11.k1 hk29
  replace jbs23 := jbs23.k1 hk29
  replace jbn24 := jbn24.k1 hk29
  replace jA := jA.keep hk29 (fun q hq hs => by have hs : q = b26 := hs; have g0 := hAr q hq; have g1 := ltjA q hq; omega)
  replace jA2 := jA2.keep hk29 (fun q hq hs => by have hs : q = b26 := hs; have g0 := owA2 q hq; have g1 := ltjA2 q hq; omega)
  replace jAk := jAk.keep hk29 (fun q hq hs => by have hs : q = b26 := hs; have g0 := ownk q hq; have g1 := ltjAk q hq; omega)
  replace jhV := jhV.keep hk29 (fun q hq hs => by have hs : q = b26 := hs; have g0 := hVr q hq; have g1 := hFlt q hq; omega)
  replace jhK0 := Keep.fr jhK0 hk29
  replace hfen := Keep.fresh hfen hk29 (by intro i hi hs; have hs2 : i = b26 := hs; show _ ∨ _; omega)
  refine OI_end rfl <| X_begin2 hfen ?_
  intro W2 hk2 ⟨r2, hr2⟩ hD2
  have hsz33 := Keep.size hk2
  replace jr := Blk.quiet jr hk2
  replace jb1 := Blk.quiet jb1 hk2
  replace jb3 := Blk.quiet jb3 hk2
  replace jb5 := Blk.quiet jb5 hk2
  replace jb7 := Blk.quiet jb7 hk2
  replace jb9 := Blk.quiet jb9 hk2
  replace jb11 := Blk.quiet jb11 hk2
  replace jbs23 := Blk.quiet jbs23 hk2
  replace jbn24 := Blk.quiet jbn24 hk2
  replace hb26_31 := Blk.quiet hb26_31 hk2
  replace jA := jA.quiet hk2
  replace jA2 := jA2.quiet hk2
  replace jAk := jAk.quiet hk2
  replace jhV := jhV.quiet hk2
  replace jhK0 := Keep.quiet jhK0 hk2 (by omega)
  have hzhk2 := Keep.size hk2
  have hfenb : Keep (fen w20.heap.size M1) W2 W2 := Keep.refl _ _
  have hzhfenb := Keep.size hfenb
  refine V_block <| V_block <| Vr <| On 1 [4, 6, 7, 10, 11, 12, 13, 19] <| Lr 0 (nt x.state) hb26_31 <| On 4 [4, 6, 7, 10, 11, 12, 13, 22] ?_
  by_cases hg34 : x.state = 1
  ·
   refine Nt 22 hg34 <| On 5 [4, 6, 7, 10, 11, 12, 13, 22, 23] <| Lr 1 (nt x.track) hb26_31 <| Lr 0 (nt (j : Int)) jb5 <| Ose [(4, pt b1),(6, pt b5),(7, pt b7),(10, pt b9),(11, pt b11),(12, nt (k : Int)),(13, pt b26),(18, .bool (!(decide (x.track = (j : Int)))))] <| V_not (x.track = (j : Int)) (by kernel_rfl) (fun hc35 => ?_) (fun hc35 => ?_)
   ·
    refine V_skip <| X_block <| X_block ?_
    obtain ⟨hwa, hwb⟩ : waitB ts (j : Int) now x = false ∧ decB (j : Int) x = false := wait_skip (.inr hc35)
    rw [hwa] at hst1
    rw [hwb] at hst2
    replace hst1 := hst1.trans (show _ ++ [] = _ from List.append_nil _)
    replace hst2 := hst2.trans (show _ + 0 = _ from Int.add_zero _)
    exact fun a _ => ⟨hfenb, Ak, capk, jr, jb1, jb3, jb5, jb7, jbs23, jbn24, jA, jA2, jhV, jhK0, by rw [hst1]; exact jb9, by rw [hst2]; exact jb11, by rw [hst1]; exact jAk, ownk⟩
   refine Vr <| On 1 [4, 6, 7, 10, 11, 12, 13, 29] <| Lr 39 (nt x.since) hb26_31 <| Oen [4, 6, 7, 10, 11, 12, 13, 28] <| V_not (x.since = -1) (by kernel_rfl) (fun hc36 => ?_) (fun hc36 => ?_)
   ·
    refine V_region <| Lr 0 (nt (decN (j : Int) (rs.take k))) jb11 ?_
    have hw37 : i64.wrap ((decN (j : Int) (rs.take k)) + 1) = (decN (j : Int) (rs.take k)) + 1 := wrp
    refine Os 2 [(11, pt b11),(33, nt (i64.wrap ((decN (j : Int) (rs.take k)) + 1)))] <| Oq (u := nt (i64.wrap ((decN (j : Int) (rs.take k)) + 1))) (v := nt ((decN (j : Int) (rs.take k)) + 1)) 33 (by rw [hw37]) <| St_ 0 (nt ((decN (j : Int) (rs.take k)) + 1)) jb11 ?_
    intro w38 hb11_41 hk39 hz40
    replace hb11_41 : Blk w38 b11 [nt ((decN (j : Int) (rs.take k)) + 1)] 3 := hb11_41
    have hsz42 := Keep.size hk39
    replace jr := jr.k1 hk39
    replace jb1 := jb1.k1 hk39
    replace jb3 := jb3.k1 hk39
    replace jb5 := jb5.k1 hk39
    replace jb7 := jb7.k1 hk39
    replace jb9 := jb9.k1 hk39
    replace jbs23 := jbs23.k1 hk39
    replace jbn24 := jbn24.k1 hk39
    replace jA := jA.keep hk39 (fun q hq hs => by have hs : q = b11 := hs; have g0 := hAr q hq; have g1 := ltjA q hq; omega)
    replace jA2 := jA2.keep hk39 (fun q hq hs => by have hs : q = b11 := hs; have g0 := owA2 q hq; have g1 := ltjA2 q hq; omega)
    replace jAk := jAk.keep hk39 (fun q hq hs => by have hs : q = b11 := hs; have g0 := ownk q hq; have g1 := ltjAk q hq; omega)
    replace jhV := jhV.keep hk39 (fun q hq hs => by have hs : q = b11 := hs; have g0 := hVr q hq; have g1 := hFlt q hq; omega)
    replace jhK0 := Keep.fr jhK0 hk39
    replace hfenb := Keep.fresh hfenb hk39 (by intro i hi hs; have hs2 : i = b11 := hs; show _ ∨ _; omega)
    refine OI_end rfl <| X_block <| X_block ?_
    obtain ⟨hwa, hwb⟩ : waitB ts (j : Int) now x = false ∧ decB (j : Int) x = true := wait_dec hg34 hc35 hc36
    rw [hwa] at hst1
    rw [hwb] at hst2
    replace hst1 := hst1.trans (show _ ++ [] = _ from List.append_nil _)
    replace hst2 := hst2
    replace hst2 := hst2.trans (show _ + 1 = decN (j : Int) (rs.take k) + 1 from rfl)
    exact fun a _ => ⟨hfenb, Ak, capk, jr, jb1, jb3, jb5, jb7, jbs23, jbn24, jA, jA2, jhV, jhK0, by rw [hst1]; exact jb9, by rw [hst2]; exact hb11_41, by rw [hst1]; exact jAk, ownk⟩
   refine V_seq <| V_draws (acts []) none_ [[0, 1, 2, 3, 4, 5, 6, 7, 8, 9, 10, 11, 12, 13, 14, 15, 16, 17, 18]] (by kernel_rfl) (by repeat first | exact (by first | exact sure_postM | exact sure_rQ2 | exact sure_no) | refine sure_then ?_ | refine sure_block ?_ | refine sure_join ?_) (by kernel_rfl) ?_
   intro w44 hk43 he45 L hL46
   have hsz47 := Keep.size hk43
   replace jr := jr.k0 hk43
   replace jb1 := jb1.k0 hk43
   replace jb3 := jb3.k0 hk43
   replace jb5 := jb5.k0 hk43
   replace jb7 := jb7.k0 hk43
   replace jb9 := jb9.k0 hk43
   replace jb11 := jb11.k0 hk43
   replace jbs23 := jbs23.k0 hk43
   replace jbn24 := jbn24.k0 hk43
   replace hb26_31 := hb26_31.k0 hk43
   replace jA := jA.keep0 hk43
   replace jA2 := jA2.keep0 hk43
   replace jAk := jAk.keep0 hk43
   replace jhV := jhV.keep hk43 nk
   replace jhK0 := jhK0.tn hk43
   replace hfenb := hfenb.tn hk43
   have qjr := jr
   have qjb1 := jb1
   have qjb5 := jb5
   have qjb7 := jb7
   have qhb26_31 := hb26_31
   have K48 : Keep none_ w44 w44 := Keep.refl _ _
   obtain rfl := List.mem_singleton.1 hL46
   refine Gn [1, 2, 3, 4, 5, 6, 7, 8, 9, 10, 11, 12, 13, 14, 15, 16, 17, 18] [4, 6, 7, 10, 12, 13, 35] <| Mr 38 (nt x.backer) qhb26_31 <| Gn [4, 5, 6, 7, 8, 9, 10, 11, 12, 13, 14, 15, 16, 17, 18] [4, 6, 7, 10, 12, 13, 38] ?_
   by_cases hg49 : x.backer = -1
   ·
    refine Gq_ (u := .bool (!(decide (x.backer = -1)))) (v := .bool false) 38 (by first | simp [hg49] | rfl) <| Gs [] [(10, pt b9),(12, nt (k : Int)),(34, .bool false)] <| GI_end <| X_then <| Vf <| V_skip <| X_block <| X_block ?_
    obtain ⟨hwa, hwb⟩ : waitB ts (j : Int) now x = false ∧ decB (j : Int) x = false := wait_no hg34 hc35 hc36 (.inl hg49)
    rw [hwa] at hst1
    rw [hwb] at hst2
    replace hst1 := hst1.trans (show _ ++ [] = _ from List.append_nil _)
    replace hst2 := hst2.trans (show _ + 0 = _ from Int.add_zero _)
    exact fun a _ => ⟨hfenb, Ak, capk, jr, jb1, jb3, jb5, jb7, jbs23, jbn24, jA, jA2, jhV, jhK0, by rw [hst1]; exact jb9, by rw [hst2]; exact jb11, by rw [hst1]; exact jAk, ownk⟩
   refine Gq_ (u := .bool (!(decide (x.backer = -1)))) (v := .bool true) 38 (by first | simp [hg49] | rfl) <| Mr 0 (nt now) qjb7 <| Gn [6, 7, 8, 9, 10, 11, 12, 13, 14, 15, 16, 17, 18] [4, 6, 10, 12, 38, 39, 40] <| Mr 35 (nt x.sub) qhb26_31 <| Gn [8, 9, 10, 11, 12, 13, 14, 15, 16, 17, 18] [4, 6, 10, 12, 38, 42] <| Mr 0 (pt r) qjb1 <| Gn [11, 12, 13, 14, 15, 16, 17, 18] [6, 10, 12, 38, 42, 45] <| Mr 0 (.slice A ts.length cap) qjr <| Mr 0 (nt (j : Int)) qjb5 ?_
   obtain ⟨b50, o50, L50, T50, rfl, hat50⟩ := SlT.opn jA
   have hb50lt := hat50.blk.lt
   have hob51 := hAr b50 ⟨_, rfl, rfl⟩
   have hob52 := ltjA b50 ⟨_, rfl, rfl⟩
   have hne53 : ∀ q, F q → q ≠ b50 := fun q hq hs => (fun q h1 h2 => hHF q (hAo q h2).1 h1) q hq ⟨_, rfl, hs⟩
   have own54 := fun q hq => And.intro (hVr q hq) (hne53 q hq)
   refine Gi (b := b50) (o := o50) (len := ts.length) (cap := cap) (j := j) 27 18 144 .i64 <| Gn [15, 16, 17, 18] [10, 12, 38, 42, 49] <| Mc0 (o50 + j * 18 + 2) (nt ((trkA ts (j : Int)).prepare)) hat50.blk (At.cell hat50 (es_at htk) rfl) <| Gs [] [(10, pt b9),(12, nt (k : Int)),(34, .bool (decide (i64.wrap (now - x.sub) ≥ (trkA ts (j : Int)).prepare)))] <| GI_end <| X_then <| Vi (i64.wrap (now - x.sub) ≥ (trkA ts (j : Int)).prepare) (fun hc55 => ?_) (fun hc55 => ?_)
   ·
    refine V_region <| Lr 0 (.slice Ak ((waitL ts (j : Int) now 0 (rs.take k)).length) capk) jb9 <| Os 2 [(10, pt b9),(53, .slice Ak ((waitL ts (j : Int) now 0 (rs.take k)).length) capk),(54, nt (k : Int))] <| OI_slit (E := 3) (zv := nt 0) (sz := 1) (by_ := 8) 72 1 #[(0, (Operand.tmp 54))] [nt (k : Int)] [nt (k : Int)] (some 55) (by kernel_rfl) (by kernel_rfl) (by kernel_rfl) (by omega) rfl (by omega) (by intro v hv; simp only [List.mem_cons, List.not_mem_nil, or_false] at hv; rcases hv with rfl <;> rfl) (by kernel_rfl) rfl ?_
    intro b56 w56 e56 hb56 k56 z56
    have hsz57 := Keep.size k56
    replace jr := jr.k0 k56
    replace jb1 := jb1.k0 k56
    replace jb3 := jb3.k0 k56
    replace jb5 := jb5.k0 k56
    replace jb7 := jb7.k0 k56
    replace jb9 := jb9.k0 k56
    replace jb11 := jb11.k0 k56
    replace jbs23 := jbs23.k0 k56
    replace jbn24 := jbn24.k0 k56
    replace jA := jA.keep0 k56
    replace jA2 := jA2.keep0 k56
    replace jAk := jAk.keep0 k56
    replace jhV := jhV.keep k56 nk
    replace jhK0 := jhK0.tn k56
    replace hfenb := hfenb.tn k56
    have hb56lt := hb56.lt
    refine OI_append (t := 72) (at2 := 72) (E := 3) (E2 := 3) (sz := 1) (by_ := 8) (zv := nt 0) (m := (waitL ts (j : Int) now 0 (rs.take k)).length) (k := 1) (.tmp 53) (.tmp 55) (.slice Ak ((waitL ts (j : Int) now 0 (rs.take k)).length) capk) (sl_ b56 0 1 1) (some 56) (by kernel_rfl) (by kernel_rfl) (by kernel_rfl) (by kernel_rfl) (by kernel_rfl) (by kernel_rfl) (by kernel_rfl) (SlT.slr jAk) (slr_one hb56 (intc_len (k : Int))) (intc_one (k : Int)) (by first | omega | (simp only [List.length_nil]; omega)) (by omega) (by first | omega | (simp only [List.length_nil]; omega)) (by omega) ?_
    intro vv9 w58 hap
    obtain ⟨A58, cap58, rfl, hA58, hk58, own58x⟩ := app_one (f := intc) (xs := (waitL ts (j : Int) now 0 (rs.take k))) (x := (k : Int)) (A := Ak) (cap := capk) hap (fun x _ => intc_len x) (intc_len _)
    have own58 : ∀ q, inA A58 q → M1 ≤ q := fun q hq => by rcases own58x q hq with h | h; exact ownk q h; (show M1 ≤ q; omega)
    have hsz59 := Keep.size hk58
    replace jr := jr.keep hk58 (fun hs => by have h1 := ownk _ hs; have h2 := ltjAk _ hs; omega)
    replace jb1 := jb1.keep hk58 (fun hs => by have h1 := ownk _ hs; have h2 := ltjAk _ hs; omega)
    replace jb3 := jb3.keep hk58 (fun hs => by have h1 := ownk _ hs; have h2 := ltjAk _ hs; omega)
    replace jb5 := jb5.keep hk58 (fun hs => by have h1 := ownk _ hs; have h2 := ltjAk _ hs; omega)
    replace jb7 := jb7.keep hk58 (fun hs => by have h1 := ownk _ hs; have h2 := ltjAk _ hs; omega)
    replace jb9 := jb9.keep hk58 (fun hs => by have h1 := ownk _ hs; have h2 := ltjAk _ hs; omega)
    replace jb11 := jb11.keep hk58 (fun hs => by have h1 := ownk _ hs; have h2 := ltjAk _ hs; omega)
    replace jbs23 := jbs23.keep hk58 (fun hs => by have h1 := ownk _ hs; have h2 := ltjAk _ hs; omega)
    replace jbn24 := jbn24.keep hk58 (fun hs => by have h1 := ownk _ hs; have h2 := ltjAk _ hs; omega)
    replace jA := jA.keep hk58 (fun q hq hs => by have g0 := hAr q hq; have g1 := ltjA q hq; have h1 := ownk q hs; have h2 := ltjAk q hs; omega)
    replace jA2 := jA2.keep hk58 (fun q hq hs => by have g0 := owA2 q hq; have g1 := ltjA2 q hq; have h1 := ownk q hs; have h2 := ltjAk q hs; omega)
    replace jhV := jhV.keep hk58 (fun q hq hs => by have g0 := own54 q hq; have g1 := hFlt q hq; have h1 := ownk q hs; have h2 := ltjAk q hs; omega)
    replace jhK0 := Keep.fresh jhK0 hk58 (by intro i hi hs; first | exact hs | (exfalso; have h1 := ownk i hs; have h2 := ltjAk i hs; omega) | (have h1 := ownk i hs; have h2 := ltjAk i hs; show _ ∨ _; omega))
    replace hfenb := Keep.fresh hfenb hk58 (by intro i hi hs; have h1 := ownk i hs; have h2 := ltjAk i hs; show _ ∨ _; omega)
    have lt58 := SlT.lt hA58
    refine St_ 0 (.slice A58 (((waitL ts (j : Int) now 0 (rs.take k)) ++ [(k : Int)]).length) cap58) jb9 ?_
    intro w60 hb9_63 hk61 hz62
    replace hb9_63 : Blk w60 b9 [.slice A58 (((waitL ts (j : Int) now 0 (rs.take k)) ++ [(k : Int)]).length) cap58] 72 := hb9_63
    have hsz64 := Keep.size hk61
    replace jr := jr.k1 hk61
    replace jb1 := jb1.k1 hk61
    replace jb3 := jb3.k1 hk61
    replace jb5 := jb5.k1 hk61
    replace jb7 := jb7.k1 hk61
    replace jb11 := jb11.k1 hk61
    replace jbs23 := jbs23.k1 hk61
    replace jbn24 := jbn24.k1 hk61
    replace jA := jA.keep hk61 (fun q hq hs => by have hs : q = b9 := hs; have g0 := hAr q hq; have g1 := ltjA q hq; omega)
    replace jA2 := jA2.keep hk61 (fun q hq hs => by have hs : q = b9 := hs; have g0 := owA2 q hq; have g1 := ltjA2 q hq; omega)
    replace hA58 := hA58.keep hk61 (fun q hq hs => by have hs : q = b9 := hs; have g0 := own58 q hq; have g1 := lt58 q hq; omega)
    replace jhV := jhV.keep hk61 (fun q hq hs => by have hs : q = b9 := hs; have g0 := own54 q hq; have g1 := hFlt q hq; omega)
    replace jhK0 := Keep.fr jhK0 hk61
    replace hfenb := Keep.fresh hfenb hk61 (by intro i hi hs; have hs2 : i = b9 := hs; show _ ∨ _; omega)
    refine OI_end rfl <| X_block <| X_block ?_
    obtain ⟨hwa, hwb⟩ : waitB ts (j : Int) now x = true ∧ decB (j : Int) x = false := wait_yes hg34 hc35 hc36 hg49 hc55
    rw [hwa] at hst1
    rw [hwb] at hst2
    replace hst1 := hst1
    replace hst2 := hst2.trans (show _ + 0 = _ from Int.add_zero _)
    replace hst1 := hst1.trans (show _ ++ [(k : Int)] = _ from rfl)
    exact fun a _ => ⟨hfenb, A58, cap58, jr, jb1, jb3, jb5, jb7, jbs23, jbn24, jA, jA2, jhV, jhK0, by rw [hst1]; exact hb9_63, by rw [hst2]; exact jb11, by rw [hst1]; exact hA58, own58⟩
   refine V_skip <| X_block <| X_block ?_
   obtain ⟨hwa, hwb⟩ : waitB ts (j : Int) now x = false ∧ decB (j : Int) x = false := wait_no hg34 hc35 hc36 (.inr hc55)
   rw [hwa] at hst1
   rw [hwb] at hst2
   replace hst1 := hst1.trans (show _ ++ [] = _ from List.append_nil _)
   replace hst2 := hst2.trans (show _ + 0 = _ from Int.add_zero _)
   exact fun a _ => ⟨hfenb, Ak, capk, jr, jb1, jb3, jb5, jb7, jbs23, jbn24, jA, jA2, jhV, jhK0, by rw [hst1]; exact jb9, by rw [hst2]; exact jb11, by rw [hst1]; exact jAk, ownk⟩
  refine Nf 22 hg34 <| Ose [(4, pt b1),(6, pt b5),(7, pt b7),(10, pt b9),(11, pt b11),(12, nt (k : Int)),(13, pt b26),(18, .bool true)] <| Vo <| V_skip <| X_block <| X_block ?_
  obtain ⟨hwa, hwb⟩ : waitB ts (j : Int) now x = false ∧ decB (j : Int) x = false := wait_skip (.inl hg34)
  rw [hwa] at hst1
  rw [hwb] at hst2
  replace hst1 := hst1.trans (show _ ++ [] = _ from List.append_nil _)
  replace hst2 := hst2.trans (show _ + 0 = _ from Int.add_zero _)
  exact fun a _ => ⟨hfenb, Ak, capk, jr, jb1, jb3, jb5, jb7, jbs23, jbn24, jA, jA2, jhV, jhK0, by rw [hst1]; exact jb9, by rw [hst2]; exact jb11, by rw [hst1]; exact jAk, ownk⟩
 ·
  intro D M1 W hD hM ⟨Ak, capk, jr, jb1, jb3, jb5, jb7, jbs23, jbn24, jA, jA2, jhV, jhK0, jb9, jb11, jAk, ownk⟩ hDD
  have hzjhK0 := Keep.size jhK0
  have hrlt := jr.lt
  have hb1lt := jb1.lt
  have hb3lt := jb3.lt
  have hb5lt := jb5.lt
  have hb7lt := jb7.lt
  have hb9lt := jb9.lt
  have hb11lt := jb11.lt
  have hbs23lt := jbs23.lt
  have hbn24lt := jbn24.lt
  have ltjA := SlT.lt jA
  have ltjA2 := SlT.lt jA2
  have ltjAk := SlT.lt jAk
  rw [List.take_length] at jAk jb9 jb11
  refine X_block <| X_then <| Vr <| Lr 0 (.slice Ak ((waitL ts (j : Int) now 0 rs).length) capk) jb9 <| On 2 [10, 11, 57, 58] ?_
  have hwl9 : (waitL ts (j : Int) now 0 rs).length ≤ 12 := Nat.le_trans (waitL_len rs 0) hrl
  refine Kg (ssort_spec Ak capk 152 (pt b3) (waitL ts (j : Int) now 0 rs) (fun r => (tallyT s r).a) _ jAk (by omega) (by kernel_rfl) (fun x9 y9 w9 hk9 => waits1_spec b3 F v s x9 y9 w9 (jb3.keep hk9 (fun hs => by have h3 := ownk _ hs; omega)) (VotT.keep jhV hk9 (fun q h1 h2 => by have h3 := hFlt q h1; have h4 := ownk q h2; omega)))) ?_
  rintro _ w65 ⟨rfl, hso67, hk66⟩
  refine ⟨_, rfl, ?_⟩
  have hsz68 := Keep.size hk66
  replace jb9 := jb9.keep hk66 (fun hs => by have h1 := ownk _ hs; have h2 := ltjAk _ hs; omega)
  replace jb11 := jb11.keep hk66 (fun hs => by have h1 := ownk _ hs; have h2 := ltjAk _ hs; omega)
  replace jhK0 := Keep.fresh jhK0 hk66 (by intro i hi hs; first | exact hs | (exfalso; have h1 := ownk i hs; have h2 := ltjAk i hs; omega) | (have h1 := ownk i hs; have h2 := ltjAk i hs; show _ ∨ _; omega))
  replace hDD := (Keep.block hk66 _ (Array.getElem?_eq_some_iff.1 hDD).1 (fun hs => by have h1 := ownk _ hs; have h2 := ltjAk _ hs; omega)).trans hDD
  have lts67 := SlT.lt hso67
  refine Oe <| V_seq <| V_draws (acts []) none_ [[0, 1, 2, 3]] (by kernel_rfl) (by repeat first | exact (by first | exact sure_postM | exact sure_rQ2 | exact sure_no) | refine sure_then ?_ | refine sure_block ?_ | refine sure_join ?_) (by kernel_rfl) ?_
  intro w70 hk69 he71 L hL72
  have hsz73 := Keep.size hk69
  replace jb9 := jb9.k0 hk69
  replace jb11 := jb11.k0 hk69
  replace hso67 := hso67.keep0 hk69
  replace jhK0 := jhK0.tn hk69
  replace hDD := (Keep.block hk69 _ (Array.getElem?_eq_some_iff.1 hDD).1 id).trans hDD
  have qjb9 := jb9
  have qjb11 := jb11
  have K74 : Keep none_ w70 w70 := Keep.refl _ _
  obtain rfl := List.mem_singleton.1 hL72
  refine Mr 0 (.slice Ak ((waitL ts (j : Int) now 0 rs).length) capk) qjb9 <| Mr 0 (nt (decN (j : Int) rs)) qjb11 <| Gs [] [(8, .slice Ak ((waitL ts (j : Int) now 0 rs).length) capk),(9, nt (decN (j : Int) rs))] <| GI_end <| X_then <| V_ret ?_
  exact leave1 (.tuple #[.slice Ak (waitL ts (j : Int) now 0 rs).length capk, nt (decN (j : Int) rs)]) (.inl rfl) hDD (fun w' hk => ⟨res_tmps rfl, ⟨Ak, capk, rfl, SlT.quiet hso67 hk, (fun q h => by have h1 := ownk q h; omega), Keep.quiet jhK0 hk (by omega)⟩⟩)
end Go.Al
namespace Go.Al
open Go Go.RowKit Go.Proofs
section
variable {xs : List Acc} {cs : List Ci} {s : VS} {ts : List Trk} {rs : List Rfm} {who of after ref now : Int}
theorem subE1 (h : (trkO ts of).isSome = false ∨ who < 0 ∨ who ≥ 10 ∨ after < 0 ∨ after > 1000) : subE xs cs s ts rs who of after = 1 := by
  unfold subE
  rw [if_pos (h.imp (fun h => by cases h9 : trkO ts of with
    | none => rfl
    | some _ => rw [h9] at h; cases h) id)]
theorem closeE4 {s : VS} {ref : Int} : closeE s ref 0 = 4 ↔ (pollAt s ref).isSome = false := by
  unfold closeE
  cases pollAt s ref with
  | none => simp
  | some q =>
    simp only [Option.isSome_some, reduceCtorEq, iff_false]
    split
    · decide
    · decide
theorem closeS0 (s : VS) (ref e : Int) : closeS s ref 0 e = s := by
  unfold closeS
  cases hp : pollAt s ref with
  | none => rfl
  | some q =>
    dsimp only
    have : closeE s ref 0 ≠ 0 := by
      unfold closeE; rw [hp]; dsimp only
      split
      · decide
      · decide
    rw [if_neg this]
theorem subEx (h1 : (trkO ts of).isSome = true) (h2 : ¬ (who < 0 ∨ who ≥ 10 ∨ after < 0 ∨ after > 1000)) : subE xs cs s ts rs who of after = if rs.length ≥ 12 then 3 else if (pollAt s rs.length).isSome then 5 else spendsE xs cs who 10 := by
  unfold subE
  rw [if_neg]
  rintro (h | h)
  · simp_all
  · exact h2 h
theorem sub_no {k : Int} (h : subE xs cs s ts rs who of after = k) (hk : k ≠ 0) : subX xs cs s ts rs who of after = xs ∧ subS xs cs s ts rs who of after = s ∧ ∀ sum now, subR xs cs s ts rs who of after sum now = rs := by
  refine ⟨?_, ?_, fun sum now => ?_⟩
  · unfold subX; rw [h, if_neg hk]
  · unfold subS; rw [h, if_neg hk]
  · unfold subR; rw [h, if_neg hk]
theorem sub_go (h : subE xs cs s ts rs who of after = 0) : subX xs cs s ts rs who of after = resX xs cs who 10 ∧ subS xs cs s ts rs who of after = openS s rs.length of ∧ ∀ sum now, subR xs cs s ts rs who of after sum now = rs ++ [newR of sum after now who] := by
  refine ⟨?_, ?_, fun sum now => ?_⟩
  · unfold subX; rw [if_pos h]
  · unfold subS; rw [if_pos h]
  · unfold subR; rw [if_pos h]
theorem trk_some (h : (trkO ts of).isSome = true) : 0 ≤ of ∧ of < ts.length := by
  unfold trkO at h
  split at h
  · assumption
  · cases h
end
set_option maxHeartbeats 1000000 in
theorem submit_spec (H : Nat → Prop) (r g : Nat) (ts : List Trk) (rs : List Rfm) (F : Nat → Prop) (v : Nat) (s : VS) (G : Nat → Prop) (l : Nat) (xs : List Acc) (cs : List Ci) (who of : Int) (sum : Nat → Int) (after now : Int) (w : World) (hR : Rfr H w r g ts rs) (hV : VotT F w v s) (hl : Led G w l xs cs) (hHF : ∀ q, H q → ¬ F q) (hHG : ∀ q, H q → ¬ G q) (hFG : ∀ q, F q → ¬ G q) : Calls Tryz.prog 17 #[pt r, pt l, pt v, nt who, nt of, .agg (hshc sum).toArray, nt after, nt now] w fun e w' => e = .returned (.tuple #[nt (if subE xs cs s ts rs who of after = 0 then (rs.length : Int) else 0), nt (subE xs cs s ts rs who of after)]) ∧ (∃ H' F' G', Rfr H' w' r g ts (subR xs cs s ts rs who of after sum now) ∧ VotT F' w' v (subS xs cs s ts rs who of after) ∧ Led G' w' l (subX xs cs s ts rs who of after) cs ∧ (∀ q, H' q → H q ∨ w.heap.size ≤ q) ∧ (∀ q, F' q → F q ∨ w.heap.size ≤ q) ∧ (∀ q, G' q → G q ∨ w.heap.size ≤ q) ∧ (∀ q, H' q → ¬ F' q) ∧ (∀ q, H' q → ¬ G' q) ∧ (∀ q, F' q → ¬ G' q)) ∧ Keep (fun q => q = g ∨ F q ∨ G q) w w' := by
 have hHlt := Rfr.lt hR
 have hrH := Rfr.at_ hR
 have hgH := Rfr.atg hR
 have hrlt := hHlt _ hrH
 have hglt := hHlt _ hgH
 have hin := Rfr.inn hR
 obtain ⟨A, cap, hr, hA, hAo, hrg⟩ := Rfr.parts hR
 have hAlt := SlT.lt hA
 have hAr : ∀ q, inA A q → q ≠ r ∧ q ≠ g ∧ q < w.heap.size := fun q hq => ⟨(hAo q hq).2.1, (hAo q hq).2.2, hAlt q hq⟩
 have hgo : ∀ q, only g q → q ≠ r ∧ q = g := fun q hq => ⟨fun e => hrg (e.symm.trans hq), hq⟩
 have hgl : ∀ q, only g q → q < w.heap.size := fun q hq => by rw [show q = g from hq]; exact hglt
 have hHo : ∀ q, H q → 0 ≤ q := fun q _ => Nat.zero_le q
 have htl := hin.tl
 have hrl := hin.rl
 have hFlt := VotT.lt hV
 have hvlt := hFlt _ (VotT.at_ hV)
 have hVr : ∀ q, F q → q ≠ r := fun q hq e => hHF r hrH (e ▸ hq)
 have hGlt := Led.lt hl
 have hllt := hGlt _ (Led.at_ hl)
 have hlr : ∀ q, G q → q ≠ r := fun q hq e => hHG r hrH (e ▸ hq)
 have hinv := Led.inv hl
 have hHr : ∀ q, H q → H q ∨ w.heap.size ≤ q := fun _ h => .inl h
 have hFr : ∀ q, F q → F q ∨ w.heap.size ≤ q := fun _ h => .inl h
 have hGr : ∀ q, G q → G q ∨ w.heap.size ≤ q := fun _ h => .inl h
 have hK0 : Keep (fun q => q = g ∨ F q ∨ G q) w w := Keep.refl _ _
 refine eV ?_
 refine Vr <| OI_box 42 (.tmp 5) (.agg (hshc sum).toArray) (hshc sum) (some 13) (by kernel_rfl) (by kernel_rfl) rfl ?_
 intro b1 w1 e1 hb1 k1 z1
 have hsz2 := Keep.size k1
 replace hR := hR.keep k1 nk
 replace hV := hV.keep k1 nk
 replace hl := hl.keep k1 nk
 replace hK0 := hK0.tn k1
 have hb1lt := hb1.lt
 refine On 3 [0, 1, 2, 3, 4, 6, 7, 13] <| Oer <| On 2 [0, 1, 2, 3, 4, 6, 7, 13, 23, 24] <| Kk (rtrack_spec H r g ts rs of _ hR) fun w3 hk4 _ => ?_
 replace hR := hR.keep hk4 nk
 replace hV := hV.keep hk4 nk
 replace hl := hl.keep hk4 nk
 replace hK0 := hK0.tn hk4
 refine On 6 [0, 1, 2, 3, 4, 6, 7, 13, 26, 27] <| Alc_ 27 (.agg (Trk.cells Trk.zero).toArray) (Trk.cells Trk.zero) ?_
 intro b6 w6 e6 hb6 k6 z6
 have hsz7 := Keep.size k6
 replace hr := hr.k0 ((k1.tr hk4).tr k6)
 replace hb1 := hb1.k0 (hk4.tr k6)
 replace hR := hR.keep k6 nk
 replace hV := hV.keep k6 nk
 replace hl := hl.keep k6 nk
 replace hK0 := hK0.tn k6
 have hb6lt := hb6.lt
 refine Sg 0 (Trk.cells (trkA ts of)) hb6 (Trk.len _) (Trk.one _) ?_
 intro w8 hb6_11 hk9 hz10
 replace hb6_11 : Blk w8 b6 (Trk.cells (trkA ts of)) 27 := (Blk.eqL (Trk.over _ _) hb6_11)
 have hsz12 := Keep.size hk9
 replace hr := hr.k1 hk9
 replace hb1 := hb1.k1 hk9
 replace hR := hR.keep hk9 (fun q hq hs => by have hs : q = b6 := hs; have g0 := hHo q hq; have g1 := hHlt q hq; omega)
 replace hV := hV.keep hk9 (fun q hq hs => by have hs : q = b6 := hs; have g0 := hVr q hq; have g1 := hFlt q hq; omega)
 replace hl := hl.keep hk9 (fun q hq hs => by have hs : q = b6 := hs; have g0 := hlr q hq; have g1 := hGlt q hq; omega)
 replace hK0 := Keep.fr hK0 hk9
 refine On 9 [0, 1, 2, 3, 4, 6, 7, 13, 19] <| Oe <| V_seq <| V_block <| Vr <| Os 3 [(0, pt r),(1, pt l),(2, pt v),(3, nt who),(4, nt of),(6, nt after),(7, nt now),(13, pt b1),(31, .bool (!((trkO ts of).isSome)))] ?_
 cases hg13 : (!((trkO ts of).isSome))
 ·
  refine OI_eq [(0, pt r),(1, pt l),(2, pt v),(3, nt who),(4, nt of),(6, nt after),(7, nt now),(13, pt b1),(31, .bool false)] (by first | rfl | rw [hg13]) <| On 15 [0, 1, 2, 3, 4, 6, 7, 13, 43] ?_
  by_cases hg14 : who < 0
  ·
   refine Dt 43 hg14 <| Oen [0, 1, 2, 3, 4, 6, 7, 13, 28] <| Vo <| Vn [16, 17] <| V_ret <| X_ret_block <| X_ret_then ?_
   have hE15 : subE xs cs s ts rs who of after = 1 := subE1 (.inr <| .inl hg14)
   obtain ⟨h115, h215, h315⟩ := sub_no hE15 (by decide)
   exact Xr (.tuple #[nt 0, nt 1]) ⟨by rw [hE15]; rfl, ⟨H, F, G, (by rw [h315]; exact hR),(by rw [h215]; exact hV),(by rw [h115]; exact hl), hHr, hFr, hGr, hHF, hHG, hFG⟩, hK0⟩
  refine Df 43 hg14 <| On 19 [0, 1, 2, 3, 4, 6, 7, 13, 47] ?_
  by_cases hg16 : who ≥ 10
  ·
   refine Dt 47 hg16 <| Oen [0, 1, 2, 3, 4, 6, 7, 13, 28] <| Vo <| Vn [16, 17] <| V_ret <| X_ret_block <| X_ret_then ?_
   have hE17 : subE xs cs s ts rs who of after = 1 := subE1 (.inr <| .inr <| .inl hg16)
   obtain ⟨h117, h217, h317⟩ := sub_no hE17 (by decide)
   exact Xr (.tuple #[nt 0, nt 1]) ⟨by rw [hE17]; rfl, ⟨H, F, G, (by rw [h317]; exact hR),(by rw [h217]; exact hV),(by rw [h117]; exact hl), hHr, hFr, hGr, hHF, hHG, hFG⟩, hK0⟩
  refine Df 47 hg16 <| On 23 [0, 1, 2, 3, 4, 6, 7, 13, 51] ?_
  by_cases hg18 : after < 0
  ·
   refine Dt 51 hg18 <| Oen [0, 1, 2, 3, 4, 6, 7, 13, 28] <| Vo <| Vn [16, 17] <| V_ret <| X_ret_block <| X_ret_then ?_
   have hE19 : subE xs cs s ts rs who of after = 1 := subE1 (.inr <| .inr <| .inr <| .inl hg18)
   obtain ⟨h119, h219, h319⟩ := sub_no hE19 (by decide)
   exact Xr (.tuple #[nt 0, nt 1]) ⟨by rw [hE19]; rfl, ⟨H, F, G, (by rw [h319]; exact hR),(by rw [h219]; exact hV),(by rw [h119]; exact hl), hHr, hFr, hGr, hHF, hHG, hFG⟩, hK0⟩
  refine Df 51 hg18 <| Oen [0, 1, 2, 3, 4, 6, 7, 13, 28] <| Vi (after > 1000) (fun hc20 => ?_) (fun hc20 => ?_)
  ·
   refine Vn [16, 17] <| V_ret <| X_ret_block <| X_ret_then ?_
   have hE21 : subE xs cs s ts rs who of after = 1 := subE1 (.inr <| .inr <| .inr <| .inr <| hc20)
   obtain ⟨h121, h221, h321⟩ := sub_no hE21 (by decide)
   exact Xr (.tuple #[nt 0, nt 1]) ⟨by rw [hE21]; rfl, ⟨H, F, G, (by rw [h321]; exact hR),(by rw [h221]; exact hV),(by rw [h121]; exact hl), hHr, hFr, hGr, hHF, hHG, hFG⟩, hK0⟩
  refine Vr <| On 3 [0, 1, 2, 3, 4, 6, 7, 13, 58] <| Lr 1 (pt g) hr <| Kq (qlen_spec H r g ts rs _ hR) <| Oen [0, 1, 2, 3, 4, 6, 7, 13, 55] <| Vi ((rs.length : Int) ≥ 12) (fun hc25 => ?_) (fun hc25 => ?_)
  ·
   refine Vn [16, 17] <| V_ret <| X_ret_block <| X_ret_then ?_
   have hE26 : subE xs cs s ts rs who of after = 3 := by
     rw [subEx (who := who) (of := of) (after := after) (ts := ts) (by simpa using hg13) (by omega)]
     rw [if_pos (by omega)]
   obtain ⟨h126, h226, h326⟩ := sub_no hE26 (by decide)
   exact Xr (.tuple #[nt 0, nt 3]) ⟨by rw [hE26]; rfl, ⟨H, F, G, (by rw [h326]; exact hR),(by rw [h226]; exact hV),(by rw [h126]; exact hl), hHr, hFr, hGr, hHF, hHG, hFG⟩, hK0⟩
  refine V_skip <| X_block <| X_then <| Vr <| On 3 [0, 1, 2, 3, 4, 6, 7, 13, 64] <| Lr 1 (pt g) hr <| Kq (qlen_spec H r g ts rs _ hR) <| On 6 [0, 1, 2, 3, 4, 6, 7, 13, 20] <| Oe <| V_seq <| Vr <| On 3 [0, 1, 2, 3, 4, 6, 7, 13, 20, 67, 68, 69] <| Kg (close_specT F v s (rs.length : Int) 0 now _ hV) ?_
  rintro _ w32 ⟨rfl, ⟨F34, ho35, hfr36⟩, hk33⟩
  refine ⟨_, rfl, ?_⟩
  have hsz37 := Keep.size hk33
  replace hr := hr.keep hk33 (fun hs => by have h1 := hVr _ hs; have h2 := hFlt _ hs; omega)
  replace hb1 := hb1.keep hk33 (fun hs => by have h1 := hVr _ hs; have h2 := hFlt _ hs; omega)
  replace hR := hR.keep hk33 (fun q hq hs => hHF q hq hs)
  replace hl := hl.keep hk33 (fun q hq hs => hFG q hs hq)
  replace hK0 := Keep.fresh hK0 hk33 (fun i hi hs => by rcases hFr i hs with h | h; exact .inr <| .inl h; (exfalso; omega))
  have own39 : ∀ q, F34 q → q ≠ r ∧ q ≠ r ∧ q ≠ b1 ∧ q ≠ b6 := fun q hq => by rcases hfr36 q hq with h | h; (have h1 := hVr q h; have h2 := hFlt q h; omega); omega
  have lt38 := VotT.lt ho35
  have rel40 : ∀ q, F34 q → F q ∨ w.heap.size ≤ q := fun q hq => by rcases hfr36 q hq with h | h; exact hFr q h; exact .inr (by omega)
  have dis41 : ∀ q, F34 q → ¬ inA A q := fun q h1 h2 => by rcases hfr36 q h1 with h | h; exact (fun q h1 h2 => hHF q (hAo q h2).1 h1) q h h2; (have h4 := hAlt q h2; omega)
  have dis42 : ∀ q, F34 q → ¬ H q := fun q h1 h2 => by rcases hfr36 q h1 with h | h; exact hHF q h2 h; (have h4 := hHlt q h2; omega)
  have dis43 : ∀ q, F34 q → ¬ G q := fun q h1 h2 => by rcases hfr36 q h1 with h | h; exact hFG q h h2; (have h4 := hGlt q h2; omega)
  rw [closeS0] at ho35
  refine Oen [0, 1, 2, 3, 4, 6, 7, 13, 20, 71] <| V_not (closeE s (rs.length : Int) 0 = 4) (by kernel_rfl) (fun hc44 => ?_) (fun hc44 => ?_)
  ·
   refine Vs [(16, nt 0),(17, nt 5)] <| Rt ?_
   have hE45 : subE xs cs s ts rs who of after = 5 := by
     rw [subEx (who := who) (of := of) (after := after) (ts := ts) (by simpa using hg13) (by omega)]
     rw [if_neg (by omega)]
     exact if_pos (by cases h9 : (pollAt s rs.length).isSome; exact absurd (closeE4.2 h9) hc44; rfl)
   obtain ⟨h145, h245, h345⟩ := sub_no hE45 (by decide)
   exact Xr (.tuple #[nt 0, nt 5]) ⟨by rw [hE45]; rfl, ⟨H, F34, G, (by rw [h345]; exact hR),(by rw [h245]; exact ho35),(by rw [h145]; exact hl), hHr, rel40, hGr, (fun q h1 h2 => dis42 q h2 h1), hHG, dis43⟩, hK0⟩
  refine Vsk <| V_seq <| Vr <| On 2 [0, 2, 3, 4, 6, 7, 13, 20, 72, 73] <| Kg (reserve_spec G l xs cs who 10 _ hl) ?_
  rintro _ w48 ⟨rfl, ⟨F50, ho51, hfr52⟩, hk49⟩
  refine ⟨_, rfl, ?_⟩
  have hsz53 := Keep.size hk49
  replace hr := hr.keep hk49 (fun hs => by have h1 := hlr _ hs; have h2 := hGlt _ hs; omega)
  replace hb1 := hb1.keep hk49 (fun hs => by have h1 := hlr _ hs; have h2 := hGlt _ hs; omega)
  replace hR := hR.keep hk49 (fun q hq hs => hHG q hq hs)
  replace hK0 := Keep.fresh hK0 hk49 (fun i hi hs => by rcases hGr i hs with h | h; exact .inr <| .inr <| h; (exfalso; omega))
  replace ho35 := ho35.keep hk49 (fun q hq hs => dis43 q hq hs)
  have own55 : ∀ q, F50 q → q ≠ r ∧ q ≠ r ∧ q ≠ b1 ∧ q ≠ b6 := fun q hq => by rcases hfr52 q hq with h | h; (have h1 := hlr q h; have h2 := hGlt q h; omega); omega
  have lt54 := Led.lt ho51
  have rel56 : ∀ q, F50 q → G q ∨ w.heap.size ≤ q := fun q hq => by rcases hfr52 q hq with h | h; exact hGr q h; exact .inr (by omega)
  have dis57 : ∀ q, F50 q → ¬ inA A q := fun q h1 h2 => by rcases hfr52 q h1 with h | h; exact (fun q h1 h2 => hHG q (hAo q h2).1 h1) q h h2; (have h4 := hAlt q h2; omega)
  have dis58 : ∀ q, F50 q → ¬ H q := fun q h1 h2 => by rcases hfr52 q h1 with h | h; exact hHG q h2 h; (have h4 := hHlt q h2; omega)
  have dis59 : ∀ q, F50 q → ¬ F34 q := fun q h1 h2 => by rcases hfr52 q h1 with h | h; exact dis43 q h2 h; (have h4 := lt38 q h2; omega)
  refine On 4 [0, 2, 3, 4, 6, 7, 13, 20, 21] <| Oer <| Oen [0, 2, 3, 4, 6, 7, 13, 20, 21, 76] <| V_not (spendsE xs cs who 10 = 0) (by kernel_rfl) (fun hc60 => ?_) (fun hc60 => ?_)
  ·
   refine Vn [16, 17] <| Rt ?_
   have hE61 : subE xs cs s ts rs who of after = (spendsE xs cs who 10) := by
     rw [subEx (who := who) (of := of) (after := after) (ts := ts) (by simpa using hg13) (by omega)]
     rw [if_neg (by omega)]
     rw [if_neg (by rw [closeE4.1 hc44]; decide)]
   obtain ⟨h161, h261, h361⟩ := sub_no hE61 (hc60)
   exact Xr (.tuple #[nt 0, nt (spendsE xs cs who 10)]) ⟨by rw [hE61]; rw [if_neg (hc60)], ⟨H, F34, F50, (by rw [h361]; exact hR),(by rw [h261]; exact ho35),(by rw [show subX xs cs s ts rs who of after = resX xs cs who 10 from h161.trans (by unfold resX; rw [if_neg (hc60)])]; exact ho51), hHr, rel40, rel56, (fun q h1 h2 => dis42 q h2 h1),(fun q h1 h2 => dis58 q h2 h1),(fun q h1 h2 => dis59 q h2 h1)⟩, hK0⟩
  refine Vsk <| Vr <| On 3 [0, 3, 4, 6, 7, 13, 20, 78, 79, 80] <| Kg (open_specT F34 v s (rs.length : Int) of _ ho35) ?_
  rintro _ w64 ⟨rfl, ⟨F66, ho67, hfr68⟩, hk65⟩
  refine ⟨_, rfl, ?_⟩
  have hsz69 := Keep.size hk65
  replace hr := hr.keep hk65 (fun hs => by have h1 := own39 _ hs; have h2 := lt38 _ hs; omega)
  replace hb1 := hb1.keep hk65 (fun hs => by have h1 := own39 _ hs; have h2 := lt38 _ hs; omega)
  replace hR := hR.keep hk65 (fun q hq hs => dis42 q hs hq)
  replace hK0 := Keep.fresh hK0 hk65 (fun i hi hs => by rcases rel40 i hs with h | h; exact .inr <| .inl h; (exfalso; omega))
  replace ho51 := ho51.keep hk65 (fun q hq hs => dis59 q hq hs)
  have own71 : ∀ q, F66 q → q ≠ r ∧ q ≠ r ∧ q ≠ b1 ∧ q ≠ b6 := fun q hq => by rcases hfr68 q hq with h | h; (have h1 := own39 q h; have h2 := lt38 q h; omega); omega
  have lt70 := VotT.lt ho67
  have rel72 : ∀ q, F66 q → F q ∨ w.heap.size ≤ q := fun q hq => by rcases hfr68 q hq with h | h; exact rel40 q h; exact .inr (by omega)
  have dis73 : ∀ q, F66 q → ¬ inA A q := fun q h1 h2 => by rcases hfr68 q h1 with h | h; exact dis41 q h h2; (have h4 := hAlt q h2; omega)
  have dis74 : ∀ q, F66 q → ¬ H q := fun q h1 h2 => by rcases hfr68 q h1 with h | h; exact dis42 q h h2; (have h4 := hHlt q h2; omega)
  have dis75 : ∀ q, F66 q → ¬ F50 q := fun q h1 h2 => by rcases hfr68 q h1 with h | h; exact dis59 q h2 h; (have h4 := lt54 q h2; omega)
  refine Oe <| V_seq <| Vd1 (acts [11]) (fun q => q = g) [0, 1, 2, 3, 4, 5, 6, 7, 8, 9, 10, 11] fun w77 hk76 he78 K81 _ => ?_
  replace hr := hr.k0 hk76
  replace hb1 := hb1.k0 hk76
  replace hR := hR.keep hk76 nk
  replace hK0 := hK0.tn hk76
  replace ho51 := ho51.keep hk76 nk
  replace ho67 := ho67.keep hk76 nk
  have qhr := hr
  have qhb1 := hb1
  refine Gn [3, 4, 5, 6, 7, 8, 9, 10, 11] [3, 4, 6, 7, 13, 20, 84] <| Mc 1 (pt g) qhr (by show ¬ (r = g); omega) rfl <| Gn [6, 7, 8, 9, 10, 11] [3, 6, 7, 13, 20, 85, 86, 87] <| Ma 0 (hshc sum) 32 qhb1 (by show ¬ (b1 = g); omega) (take_all (hshc_len _)) (hshc_len _) <| Gn [11] [20, 85, 86, 92] <| GI_final 11 (by kernel_rfl) (by kernel_rfl) <| Kg (rnew_spec H r g ts rs (newR of sum after now who) _ hR (by omega) (show 0 ≤ of ∧ of < (ts.length : Int) from trk_some (by simpa using hg13))) ?_
  rintro _ w84 ⟨rfl, ⟨H86, hR87, hfr88⟩, hk85⟩
  refine ⟨_, rfl, ?_⟩
  have hsz89 := Keep.size hk85
  replace hK0 := Keep.fresh hK0 hk85 (by intro i hi hs; first | exact hs | (exfalso; have h1 := hgo i hs; have h2 := hgl i hs; omega) | (have h1 := hgo i hs; have h2 := hgl i hs; show _ ∨ _; omega))
  replace ho51 := ho51.keep hk85 (fun q hq hs => (fun q h1 h2 => (fun q h1 h2 => dis58 q h2 h1) q (by rw [show q = g from h1]; exact hgH) h2) q hs hq)
  replace ho67 := ho67.keep hk85 (fun q hq hs => (fun q h1 h2 => (fun q h1 h2 => dis74 q h2 h1) q (by rw [show q = g from h1]; exact hgH) h2) q hs hq)
  have own91 : ∀ q, H86 q → 0 ≤ q ∧ q ≠ b1 ∧ q ≠ b6 := fun q hq => by rcases hfr88 q hq with h | h; (have h1 := hHo q h; have h2 := hHlt q h; omega); omega
  have lt90 := Rfr.lt hR87
  have rel92 : ∀ q, H86 q → H q ∨ w.heap.size ≤ q := fun q hq => by rcases hfr88 q hq with h | h; exact hHr q h; exact .inr (by omega)
  have dis93 : ∀ q, H86 q → ¬ F50 q := fun q h1 h2 => by rcases hfr88 q h1 with h | h; exact dis58 q h2 h; (have h4 := lt54 q h2; omega)
  have dis94 : ∀ q, H86 q → ¬ F66 q := fun q h1 h2 => by rcases hfr88 q h1 with h | h; exact dis74 q h2 h; (have h4 := lt70 q h2; omega)
  refine Oer <| Ose [(16, nt (rs.length : Int)),(17, nt 0)] <| V_ret ?_
  have hE95 : subE xs cs s ts rs who of after = 0 := by
    rw [subEx (who := who) (of := of) (after := after) (ts := ts) (by simpa using hg13) (by omega)]
    rw [if_neg (by omega)]
    rw [if_neg (by rw [closeE4.1 hc44]; decide)]
    exact hc60
  obtain ⟨h195, h295, h395⟩ := sub_go hE95
  exact Xr (.tuple #[nt (rs.length : Int), nt 0]) ⟨by rw [hE95]; rfl, ⟨H86, F66, F50, (by rw [h395]; exact hR87),(by rw [h295]; exact ho67),(by rw [h195]; exact ho51), rel92, rel72, rel56, dis94, dis93, dis75⟩, hK0⟩
 refine OI_eq [(0, pt r),(1, pt l),(2, pt v),(3, nt who),(4, nt of),(6, nt after),(7, nt now),(13, pt b1),(31, .bool true)] (by first | rfl | rw [hg13]) <| Oen [0, 1, 2, 3, 4, 6, 7, 13, 28] <| Vo <| Vn [16, 17] <| V_ret <| X_ret_block <| X_ret_then ?_
 have hE96 : subE xs cs s ts rs who of after = 1 := subE1 (.inl (by simpa using hg13))
 obtain ⟨h196, h296, h396⟩ := sub_no hE96 (by decide)
 exact Xr (.tuple #[nt 0, nt 1]) ⟨by rw [hE96]; rfl, ⟨H, F, G, (by rw [h396]; exact hR),(by rw [h296]; exact hV),(by rw [h196]; exact hl), hHr, hFr, hGr, hHF, hHG, hFG⟩, hK0⟩
end Go.Al
namespace Go.Al
open Go Go.RowKit Go.Proofs
section
variable {xs : List Acc} {cs : List Ci} {s : VS} {ts : List Trk} {rs : List Rfm} {who of after ref now : Int}
theorem getR_at (h : (getR rs ref).isSome = true) : getR rs ref = some (getA rs ref) := by
  unfold getA
  cases hx : getR rs ref with
  | none => rw [hx] at h; cases h
  | some x => rfl
theorem getA_at (hin : RfIn ts rs) (h : getR rs ref = some (getA rs ref)) : (0 ≤ ref ∧ ref < rs.length) ∧ (0 ≤ (getA rs ref).track ∧ (getA rs ref).track < ts.length) ∧ rs[ref.toNat]? = some (getA rs ref) := by
  obtain ⟨h1, h2, h3, _⟩ := getA_in hin h
  exact ⟨h1, h2, h3⟩
theorem depE_at (h : getR rs ref = some (getA rs ref)) : depE xs cs ts rs who ref = if (getA rs ref).state ≠ 1 then 9 else if (getA rs ref).backer ≠ -1 then 5 else spendsE xs cs who (trkA ts (getA rs ref).track).deposit := by unfold depE; rw [h]
theorem dep_no {k : Int} (h : depE xs cs ts rs who ref = k) (hk : k ≠ 0) : depX xs cs ts rs who ref = xs ∧ depR xs cs ts rs who ref = rs := by
  constructor
  · unfold depX; rw [h, if_neg hk]
  · unfold depR; rw [h, if_neg hk]
theorem dep_go (h : depE xs cs ts rs who ref = 0) : depX xs cs ts rs who ref = resX xs cs who (trkA ts (getA rs ref).track).deposit ∧ depR xs cs ts rs who ref = rs.set ref.toNat { getA rs ref with backer := who } := by
  constructor
  · unfold depX; rw [if_pos h]
  · unfold depR; rw [if_pos h]
end
set_option maxHeartbeats 1000000 in
theorem deposit_no (H : Nat → Prop) (r g : Nat) (ts : List Trk) (rs : List Rfm) (G : Nat → Prop) (l : Nat) (xs : List Acc) (cs : List Ci) (who ref : Int) (w : World) (hR : Rfr H w r g ts rs) (hl : Led G w l xs cs) (hHG : ∀ q, H q → ¬ G q) (hx : getR rs ref = none) : Calls Tryz.prog 21 #[pt r, pt l, nt who, nt ref] w fun e w' => e = .returned (nt (depE xs cs ts rs who ref)) ∧ (∃ H' G', Rfr H' w' r g ts (depR xs cs ts rs who ref) ∧ Led G' w' l (depX xs cs ts rs who ref) cs ∧ (∀ q, H' q → H q ∨ w.heap.size ≤ q) ∧ (∀ q, G' q → G q ∨ w.heap.size ≤ q) ∧ (∀ q, H' q → ¬ G' q)) ∧ Keep (fun q => q = g ∨ G q) w w' := by
 have hHlt := Rfr.lt hR
 have hrH := Rfr.at_ hR
 have hgH := Rfr.atg hR
 have hrlt := hHlt _ hrH
 have hglt := hHlt _ hgH
 have hin := Rfr.inn hR
 obtain ⟨A, cap, hr, hA, hAo, hrg⟩ := Rfr.parts hR
 have hAlt := SlT.lt hA
 have hAr : ∀ q, inA A q → q ≠ r ∧ q ≠ g ∧ q < w.heap.size := fun q hq => ⟨(hAo q hq).2.1, (hAo q hq).2.2, hAlt q hq⟩
 have hgo : ∀ q, only g q → q ≠ r ∧ q = g := fun q hq => ⟨fun e => hrg (e.symm.trans hq), hq⟩
 have hgl : ∀ q, only g q → q < w.heap.size := fun q hq => by rw [show q = g from hq]; exact hglt
 have hHo : ∀ q, H q → 0 ≤ q := fun q _ => Nat.zero_le q
 have htl := hin.tl
 have hrl := hin.rl
 have hGlt := Led.lt hl
 have hllt := hGlt _ (Led.at_ hl)
 have hlr : ∀ q, G q → q ≠ r := fun q hq e => hHG r hrH (e ▸ hq)
 have hinv := Led.inv hl
 have hHr : ∀ q, H q → H q ∨ w.heap.size ≤ q := fun _ h => .inl h
 have hGr : ∀ q, G q → G q ∨ w.heap.size ≤ q := fun _ h => .inl h
 have hK0 : Keep (fun q => q = g ∨ G q) w w := Keep.refl _ _
 refine eV ?_
 refine Vr <| On 1 [0, 1, 2, 3] <| Oe <| V_seq <| Vn [0, 1, 2, 3, 17] <| Vf <| Vsk <| Vr <| On 2 [0, 1, 2, 3, 19, 20] <| Kk (rget_spec H r g ts rs ref _ hR) fun w1 hk2 _ => ?_
 replace hR := hR.keep hk2 nk
 replace hl := hl.keep hk2 nk
 replace hK0 := hK0.tn hk2
 refine On 6 [0, 1, 2, 3, 22, 23] <| Alc_ 57 (.agg (Rfm.cells Rfm.zero).toArray) (Rfm.cells Rfm.zero) ?_
 intro b4 w4 e4 hb4 k4 z4
 have hsz5 := Keep.size k4
 replace hR := hR.keep k4 nk
 replace hl := hl.keep k4 nk
 replace hK0 := hK0.tn k4
 have hb4lt := hb4.lt
 refine Sg 0 (Rfm.cells (getA rs ref)) hb4 (Rfm.len _) (Rfm.one _) ?_
 intro w6 hb4_9 hk7 hz8
 replace hb4_9 : Blk w6 b4 (Rfm.cells (getA rs ref)) 57 := (Blk.eqL (Rfm.over _ _) hb4_9)
 have hsz10 := Keep.size hk7
 replace hR := hR.keep hk7 (fun q hq hs => by have hs : q = b4 := hs; have g0 := hHo q hq; have g1 := hHlt q hq; omega)
 replace hl := hl.keep hk7 (fun q hq hs => by have hs : q = b4 := hs; have g0 := hlr q hq; have g1 := hGlt q hq; omega)
 replace hK0 := Keep.fr hK0 hk7
 refine On 9 [0, 1, 2, 3, 9, 10] <| Oe <| V_seq <| V_block <| Vn [0, 1, 2, 3, 9, 24] <| Vq (u := .bool (!((getR rs ref).isSome))) (v := .bool true) 24 (by rw [hx]; rfl) <| Vo <| Vn [8] <| V_ret <| X_ret_block <| X_ret_then ?_
 have hE12 : depE xs cs ts rs who ref = 4 := by unfold depE; rw [hx]
 obtain ⟨h112, h212⟩ := dep_no (xs := xs) hE12 (by decide)
 exact Xr (nt 4) ⟨by rw [hE12], ⟨H, G, (by rw [h212]; exact hR),(by rw [h112]; exact hl), hHr, hGr, hHG⟩, hK0⟩
set_option maxHeartbeats 1000000 in
theorem deposit_at (H : Nat → Prop) (r g : Nat) (ts : List Trk) (rs : List Rfm) (G : Nat → Prop) (l : Nat) (xs : List Acc) (cs : List Ci) (who ref : Int) (w : World) (hR : Rfr H w r g ts rs) (hl : Led G w l xs cs) (hHG : ∀ q, H q → ¬ G q) (hx : getR rs ref = some (getA rs ref)) : Calls Tryz.prog 21 #[pt r, pt l, nt who, nt ref] w fun e w' => e = .returned (nt (depE xs cs ts rs who ref)) ∧ (∃ H' G', Rfr H' w' r g ts (depR xs cs ts rs who ref) ∧ Led G' w' l (depX xs cs ts rs who ref) cs ∧ (∀ q, H' q → H q ∨ w.heap.size ≤ q) ∧ (∀ q, G' q → G q ∨ w.heap.size ≤ q) ∧ (∀ q, H' q → ¬ G' q)) ∧ Keep (fun q => q = g ∨ G q) w w' := by
 have hHlt := Rfr.lt hR
 have hrH := Rfr.at_ hR
 have hgH := Rfr.atg hR
 have hrlt := hHlt _ hrH
 have hglt := hHlt _ hgH
 have hin := Rfr.inn hR
 obtain ⟨A, cap, hr, hA, hAo, hrg⟩ := Rfr.parts hR
 have hAlt := SlT.lt hA
 have hAr : ∀ q, inA A q → q ≠ r ∧ q ≠ g ∧ q < w.heap.size := fun q hq => ⟨(hAo q hq).2.1, (hAo q hq).2.2, hAlt q hq⟩
 have hgo : ∀ q, only g q → q ≠ r ∧ q = g := fun q hq => ⟨fun e => hrg (e.symm.trans hq), hq⟩
 have hgl : ∀ q, only g q → q < w.heap.size := fun q hq => by rw [show q = g from hq]; exact hglt
 have hHo : ∀ q, H q → 0 ≤ q := fun q _ => Nat.zero_le q
 have htl := hin.tl
 have hrl := hin.rl
 have hGlt := Led.lt hl
 have hllt := hGlt _ (Led.at_ hl)
 have hlr : ∀ q, G q → q ≠ r := fun q hq e => hHG r hrH (e ▸ hq)
 have hinv := Led.inv hl
 have hHr : ∀ q, H q → H q ∨ w.heap.size ≤ q := fun _ h => .inl h
 have hGr : ∀ q, G q → G q ∨ w.heap.size ≤ q := fun _ h => .inl h
 obtain ⟨href, htr, hrat⟩ := getA_at hin hx
 obtain ⟨jt, hjt, hjl, htk, htm⟩ := trkA_at htr
 have hokt := hin.tok _ htm
 have hdep : 0 ≤ (trkA ts (getA rs ref).track).deposit ∧ (trkA ts (getA rs ref).track).deposit ≤ 1073741824 := hokt.2.1
 have hK0 : Keep (fun q => q = g ∨ G q) w w := Keep.refl _ _
 refine eV ?_
 refine Vr <| On 1 [0, 1, 2, 3] <| Oe <| V_seq <| Vn [0, 1, 2, 3, 17] <| Vf <| Vsk <| Vr <| On 2 [0, 1, 2, 3, 19, 20] <| Kk (rget_spec H r g ts rs ref _ hR) fun w1 hk2 _ => ?_
 replace hR := hR.keep hk2 nk
 replace hl := hl.keep hk2 nk
 replace hK0 := hK0.tn hk2
 refine On 6 [0, 1, 2, 3, 22, 23] <| Alc_ 57 (.agg (Rfm.cells Rfm.zero).toArray) (Rfm.cells Rfm.zero) ?_
 intro b4 w4 e4 hb4 k4 z4
 have hsz5 := Keep.size k4
 replace hr := hr.k0 (hk2.tr k4)
 replace hA := hA.keep0 (hk2.tr k4)
 replace hR := hR.keep k4 nk
 replace hl := hl.keep k4 nk
 replace hK0 := hK0.tn k4
 have hb4lt := hb4.lt
 refine Sg 0 (Rfm.cells (getA rs ref)) hb4 (Rfm.len _) (Rfm.one _) ?_
 intro w6 hb4_9 hk7 hz8
 replace hb4_9 : Blk w6 b4 (Rfm.cells (getA rs ref)) 57 := (Blk.eqL (Rfm.over _ _) hb4_9)
 have hsz10 := Keep.size hk7
 replace hr := hr.k1 hk7
 replace hA := hA.keep hk7 (fun q hq hs => by have hs : q = b4 := hs; have g0 := hAr q hq; have g1 := hAlt q hq; omega)
 replace hR := hR.keep hk7 (fun q hq hs => by have hs : q = b4 := hs; have g0 := hHo q hq; have g1 := hHlt q hq; omega)
 replace hl := hl.keep hk7 (fun q hq hs => by have hs : q = b4 := hs; have g0 := hlr q hq; have g1 := hGlt q hq; omega)
 replace hK0 := Keep.fr hK0 hk7
 refine On 9 [0, 1, 2, 3, 9, 10] <| Oe <| V_seq <| V_block <| Vn [0, 1, 2, 3, 9, 24] <| Vq (u := .bool (!((getR rs ref).isSome))) (v := .bool false) 24 (by rw [hx]; rfl) <| Vf <| Vr <| On 1 [0, 1, 2, 3, 9, 28] <| Lr 0 (nt ((getA rs ref).state)) hb4_9 <| Oen [0, 1, 2, 3, 9, 27] <| V_not ((getA rs ref).state = 1) (by kernel_rfl) (fun hc12 => ?_) (fun hc12 => ?_)
 ·
  refine Vn [8] <| V_ret <| X_ret_block <| X_ret_then ?_
  have hE13 : depE xs cs ts rs who ref = 9 := by rw [depE_at hx, if_pos hc12]
  obtain ⟨h113, h213⟩ := dep_no (xs := xs) hE13 (by decide)
  exact Xr (nt 9) ⟨by rw [hE13], ⟨H, G, (by rw [h213]; exact hR),(by rw [h113]; exact hl), hHr, hGr, hHG⟩, hK0⟩
 refine Vr <| On 1 [0, 1, 2, 3, 9, 32] <| Lr 38 (nt ((getA rs ref).backer)) hb4_9 <| Oen [0, 1, 2, 3, 9, 31] <| V_not ((getA rs ref).backer = -1) (by kernel_rfl) (fun hc14 => ?_) (fun hc14 => ?_)
 ·
  refine Vn [8] <| V_ret <| X_ret_block <| X_ret_then ?_
  have hE15 : depE xs cs ts rs who ref = 5 := by rw [depE_at hx, if_neg (fun h => h hc12), if_pos hc14]
  obtain ⟨h115, h215⟩ := dep_no (xs := xs) hE15 (by decide)
  exact Xr (nt 5) ⟨by rw [hE15], ⟨H, G, (by rw [h215]; exact hR),(by rw [h115]; exact hl), hHr, hGr, hHG⟩, hK0⟩
 refine V_skip <| X_block <| X_then <| V_seq <| V_seq <| Vd1 (acts [11]) none_ [0, 1, 2, 3, 4, 5, 6, 7, 8, 9, 10, 11, 12] fun w17 hk16 he18 K21 _ => ?_
 replace hr := hr.k0 hk16
 replace hb4_9 := hb4_9.k0 hk16
 replace hA := hA.keep0 hk16
 replace hR := hR.keep hk16 nk
 replace hl := hl.keep hk16 nk
 replace hK0 := hK0.tn hk16
 have qhr := hr
 have qhb4_9 := hb4_9
 refine Gn [5, 6, 7, 8, 9, 10, 11, 12] [0, 2, 3, 9, 35, 36, 39] <| Mr 0 (.slice A ts.length cap) qhr <| Gn [7, 8, 9, 10, 11, 12] [0, 2, 3, 9, 35, 36, 40, 41] <| Gc0 3 (.tmp 41) 1 (nt ((getA rs ref).track)) (some 42) qhb4_9 rfl ?_
 obtain ⟨b22, o22, L22, T22, rfl, hat22⟩ := SlT.opn hA
 have hb22lt := hat22.blk.lt
 have hob23 := hAr b22 ⟨_, rfl, rfl⟩
 have hob24 := hAlt b22 ⟨_, rfl, rfl⟩
 have hne25 : ∀ q, G q → q ≠ b22 := fun q hq hs => (fun q h1 h2 => hHG q (hAo q h2).1 h1) q hq ⟨_, rfl, hs⟩
 have own26 := fun q hq => And.intro (hlr q hq) (hne25 q hq)
 refine Gp_ [(0, pt r),(2, nt who),(3, nt ref),(9, pt b4),(35, pt l),(36, nt who),(40, sl_ b22 o22 ts.length cap),(42, nt ((getA rs ref).track))] <| Gq_ (u := nt ((getA rs ref).track)) (v := nt (jt : Int)) 42 (by rw [hjt]) <| Gi (b := b22) (o := o22) (len := ts.length) (cap := cap) (j := jt) 27 18 144 .i64 <| Gn [10, 11, 12] [0, 2, 3, 9, 35, 36, 44] <| Mc0 (o22 + jt * 18 + 1) (nt ((trkA ts (getA rs ref).track).deposit)) hat22.blk (At.cell hat22 (es_at htk) rfl) <| Jg (reserve_spec G l xs cs who ((trkA ts (getA rs ref).track).deposit) _ hl) ?_
 rintro _ w29 ⟨rfl, ⟨F31, ho32, hfr33⟩, hk30⟩
 refine ⟨_, rfl, ?_⟩
 have hsz34 := Keep.size hk30
 replace hr := hr.keep hk30 (fun hs => by have h1 := own26 _ hs; have h2 := hGlt _ hs; omega)
 replace hb4_9 := hb4_9.keep hk30 (fun hs => by have h1 := own26 _ hs; have h2 := hGlt _ hs; omega)
 replace hR := hR.keep hk30 (fun q hq hs => hHG q hq hs)
 replace hK0 := Keep.fresh hK0 hk30 (fun i hi hs => by rcases hGr i hs with h | h; exact .inr <| h; (exfalso; omega))
 have own36 : ∀ q, F31 q → q ≠ r ∧ q ≠ r ∧ q ≠ b4 := fun q hq => by rcases hfr33 q hq with h | h; (have h1 := own26 q h; have h2 := hGlt q h; omega); omega
 have lt35 := Led.lt ho32
 have rel37 : ∀ q, F31 q → G q ∨ w.heap.size ≤ q := fun q hq => by rcases hfr33 q hq with h | h; exact hGr q h; exact .inr (by omega)
 have dis38 : ∀ q, F31 q → ¬ H q := fun q h1 h2 => by rcases hfr33 q h1 with h | h; exact hHG q h2 h; (have h4 := hHlt q h2; omega)
 refine Gn [] [0, 2, 3, 9, 11] <| GI_end <| X_then <| Vn [0, 2, 3, 9, 11, 48] <| V_not (spendsE xs cs who ((trkA ts (getA rs ref).track).deposit) = 0) (by kernel_rfl) (fun hc39 => ?_) (fun hc39 => ?_)
 ·
  refine Vn [8] <| Rt ?_
  have hE40 : depE xs cs ts rs who ref = (spendsE xs cs who ((trkA ts (getA rs ref).track).deposit)) := by rw [depE_at hx, if_neg (fun h => h hc12), if_neg (fun h => h hc14)]
  obtain ⟨h140, h240⟩ := dep_no (xs := xs) hE40 (hc39)
  exact Xr (nt (spendsE xs cs who ((trkA ts (getA rs ref).track).deposit))) ⟨by rw [hE40], ⟨H, F31, (by rw [h240]; exact hR),(by rw [show depX xs cs ts rs who ref = resX xs cs who (trkA ts (getA rs ref).track).deposit from h140.trans (by unfold resX; rw [if_neg (hc39)])]; exact ho32), hHr, rel37, (fun q h1 h2 => dis38 q h2 h1)⟩, hK0⟩
 refine Vsk <| Vr <| On 2 [0, 3, 9, 50, 51] <| St_ 38 (nt who) hb4_9 ?_
 intro w41 hb4_44 hk42 hz43
 replace hb4_44 : Blk w41 b4 (Rfm.cells { (getA rs ref) with backer := who }) 57 := (Blk.eqL (by kernel_rfl) hb4_44)
 have hsz45 := Keep.size hk42
 replace hr := hr.k1 hk42
 replace hR := hR.keep hk42 (fun q hq hs => by have hs : q = b4 := hs; have g0 := hHo q hq; have g1 := hHlt q hq; omega)
 replace hK0 := Keep.fr hK0 hk42
 replace ho32 := ho32.keep hk42 (fun q hq hs => by have hs : q = b4 := hs; have g0 := own36 q hq; have g1 := lt35 q hq; omega)
 refine Oe <| V_seq <| Vd1 (acts [6]) none_ [0, 1, 2, 3, 4, 5, 6] fun w47 hk46 he48 K51 _ => ?_
 replace hr := hr.k0 hk46
 replace hb4_44 := hb4_44.k0 hk46
 replace hR := hR.keep hk46 nk
 replace hK0 := hK0.tn hk46
 replace ho32 := ho32.keep hk46 nk
 have qhr := hr
 have qhb4_44 := hb4_44
 refine Gn [3, 4, 5, 6] [3, 9, 54] <| Mr 1 (pt g) qhr <| Gn [5, 6] [9, 55, 56] <| Ma 0 (Rfm.cells { (getA rs ref) with backer := who }) 45 qhb4_44 id (take_all (Rfm.len _)) (Rfm.len _) <| GI_final 6 (by kernel_rfl) (by kernel_rfl) <| Kg (rset_spec H r g ts rs ref ({ (getA rs ref) with backer := who }) _ hR href htr) ?_
 rintro _ w54 ⟨rfl, ⟨H56, hR57, hfr58⟩, hk55⟩
 refine ⟨_, rfl, ?_⟩
 have hsz59 := Keep.size hk55
 replace hK0 := Keep.fresh hK0 hk55 (by intro i hi hs; first | exact hs | (exfalso; have h1 := hgo i hs; have h2 := hgl i hs; omega) | (have h1 := hgo i hs; have h2 := hgl i hs; show _ ∨ _; omega))
 replace ho32 := ho32.keep hk55 (fun q hq hs => (fun q h1 h2 => (fun q h1 h2 => dis38 q h2 h1) q (by rw [show q = g from h1]; exact hgH) h2) q hs hq)
 have own61 : ∀ q, H56 q → 0 ≤ q ∧ q ≠ b4 := fun q hq => by rcases hfr58 q hq with h | h; (have h1 := hHo q h; have h2 := hHlt q h; omega); omega
 have lt60 := Rfr.lt hR57
 have rel62 : ∀ q, H56 q → H q ∨ w.heap.size ≤ q := fun q hq => by rcases hfr58 q hq with h | h; exact hHr q h; exact .inr (by omega)
 have dis63 : ∀ q, H56 q → ¬ F31 q := fun q h1 h2 => by rcases hfr58 q h1 with h | h; exact dis38 q h2 h; (have h4 := lt35 q h2; omega)
 refine Oer <| Oen [8] <| V_ret ?_
 have hE64 : depE xs cs ts rs who ref = 0 := by rw [depE_at hx, if_neg (fun h => h hc12), if_neg (fun h => h hc14)]; exact hc39
 obtain ⟨h164, h264⟩ := dep_go hE64
 exact Xr (nt 0) ⟨by rw [hE64], ⟨H56, F31, (by rw [h264]; exact hR57),(by rw [h164]; exact ho32), rel62, rel37, dis63⟩, hK0⟩
theorem deposit_spec (H : Nat → Prop) (r g : Nat) (ts : List Trk) (rs : List Rfm) (G : Nat → Prop) (l : Nat) (xs : List Acc) (cs : List Ci) (who ref : Int) (w : World) (hR : Rfr H w r g ts rs) (hl : Led G w l xs cs) (hHG : ∀ q, H q → ¬ G q) : Calls Tryz.prog 21 #[pt r, pt l, nt who, nt ref] w fun e w' => e = .returned (nt (depE xs cs ts rs who ref)) ∧ (∃ H' G', Rfr H' w' r g ts (depR xs cs ts rs who ref) ∧ Led G' w' l (depX xs cs ts rs who ref) cs ∧ (∀ q, H' q → H q ∨ w.heap.size ≤ q) ∧ (∀ q, G' q → G q ∨ w.heap.size ≤ q) ∧ (∀ q, H' q → ¬ G' q)) ∧ Keep (fun q => q = g ∨ G q) w w' := by
  cases hx : getR rs ref with
  | none => exact deposit_no H r g ts rs G l xs cs who ref w hR hl hHG hx
  | some x => exact deposit_at H r g ts rs G l xs cs who ref w hR hl hHG (getR_at (by rw [hx]; rfl))
end Go.Al
namespace Go.Al
open Go Go.RowKit Go.Proofs
theorem SlT.take {α : Type} {w : World} {sz cap : Nat} {f : α → List Value} {A : Option Addr} {xs : List α} (h : SlT w sz f A cap xs) (n : Nat) : SlT w sz f A cap (xs.take n) := by
  rcases h with ⟨h1, h2, h3⟩ | ⟨b, o, L, T, h1, h2, h3, h4, h5, h6⟩
  · refine .inl ⟨h1, h2, ?_⟩
    rw [List.map_take, h3, List.take_nil]
  · refine .inr ⟨b, o, L, T, h1, h2, ?_, h4, ?_, fun e he => h6 e ?_⟩
    · rw [List.length_map, List.length_take]; rw [List.length_map] at h3; omega
    · rw [List.map_take, ← flatten_take h6 n, ← h5, List.take_take, List.length_take]
      congr 1
      rcases Nat.le_total n (xs.map f).length with hn | hn
      · rw [Nat.min_eq_left hn, Nat.min_eq_left (Nat.mul_le_mul_right _ hn)]
      · rw [Nat.min_eq_right hn, Nat.min_eq_right (Nat.mul_le_mul_right _ hn)]
    · rw [List.map_take] at he; exact List.mem_of_mem_take he
section
variable {ts : List Trk} {rs : List Rfm} {now : Int} {s : VS}
theorem setN_len (rs : List Rfm) (ref : Int) : (setN now rs ref).length = rs.length := by unfold setN; rw [List.length_set]
theorem setsN_len : ∀ (l : List Int) (rs : List Rfm),(l.foldl (setN now) rs).length = rs.length
  | [], _ => rfl
  | x :: l, rs => by rw [List.foldl_cons, setsN_len l, setN_len]
theorem setsN_step {l : List Int} {i : Nat} {x : Int} (h : l[i]? = some x) : (l.take (i + 1)).foldl (setN now) rs = setN now ((l.take i).foldl (setN now) rs) x := by
  obtain ⟨h1, rfl⟩ := List.getElem?_eq_some_iff.1 h
  rw [List.take_succ_eq_append_getElem h1, List.foldl_append]; rfl
theorem begN (ts : List Trk) (rs : List Rfm) (j : Nat) (now : Int) : ∃ n : Nat, imin (((waitL ts (j : Int) now 0 rs).length : Nat) : Int) (imax ((trkA ts (j : Int)).most - decN (j : Int) rs) 0) = n ∧ n ≤ (waitL ts (j : Int) now 0 rs).length := by
  refine ⟨(imin (((waitL ts (j : Int) now 0 rs).length : Nat) : Int) (imax ((trkA ts (j : Int)).most - decN (j : Int) rs) 0)).toNat, ?_, ?_⟩ <;> unfold imin imax <;> split <;> split <;> omega
theorem getA_len {i : Int} (hr : 0 ≤ i ∧ i < rs.length) : getR rs i = some (getA rs i) := by
  refine getR_at ?_
  unfold getR
  rw [if_pos hr, List.getElem?_eq_getElem (by omega)]; rfl
end
set_option maxHeartbeats 2000000 in
theorem begins_spec (H : Nat → Prop) (r g : Nat) (ts : List Trk) (rs : List Rfm) (F : Nat → Prop) (v : Nat) (s : VS) (j : Nat) (now : Int) (w : World) (hR : Rfr H w r g ts rs) (hV : VotT F w v s) (hHF : ∀ q, H q → ¬ F q) (hj : j < ts.length) : Calls Tryz.prog 49 #[pt r, pt v, nt (j : Int), nt now] w fun e w' => e = .returned (.tuple #[]) ∧ (∃ H', Rfr H' w' r g ts (begR ts s now rs (j : Int)) ∧ (∀ q, H' q → H q ∨ w.heap.size ≤ q)) ∧ Keep (only g) w w' := by
 have hHlt := Rfr.lt hR
 have hrH := Rfr.at_ hR
 have hgH := Rfr.atg hR
 have hrlt := hHlt _ hrH
 have hglt := hHlt _ hgH
 have hin := Rfr.inn hR
 obtain ⟨A, cap, hr, hA, hAo, hrg⟩ := Rfr.parts hR
 have hAlt := SlT.lt hA
 have hAr : ∀ q, inA A q → q ≠ r ∧ q ≠ g ∧ q < w.heap.size := fun q hq => ⟨(hAo q hq).2.1, (hAo q hq).2.2, hAlt q hq⟩
 have hgo : ∀ q, only g q → q ≠ r ∧ q = g := fun q hq => ⟨fun e => hrg (e.symm.trans hq), hq⟩
 have hgl : ∀ q, only g q → q < w.heap.size := fun q hq => by rw [show q = g from hq]; exact hglt
 have hHo : ∀ q, H q → 0 ≤ q := fun q _ => Nat.zero_le q
 have htl := hin.tl
 have hrl := hin.rl
 have hFlt := VotT.lt hV
 have hvlt := hFlt _ (VotT.at_ hV)
 have hVr : ∀ q, F q → q ≠ r := fun q hq e => hHF r hrH (e ▸ hq)
 have hHr : ∀ q, H q → H q ∨ w.heap.size ≤ q := fun _ h => .inl h
 obtain ⟨j9, hjj, _, htk, htm⟩ := trkA_at (ts := ts) (i := (j : Int)) (by omega)
 rw [show j9 = j by omega] at htk
 have hokt := hin.tok _ htm
 have hmost := hokt.1
 have hK0 : Keep (only g) w w := Keep.refl _ _
 refine eV ?_
 refine Vr <| On 4 [0, 2, 3, 15, 16, 17, 18] <| Kg (waits_spec H r g ts rs F v s j now _ hR hV hHF hj) ?_
 rintro _ w1 ⟨A3, cap3, rfl, hA3, ow3, hk2⟩
 refine ⟨_, rfl, ?_⟩
 have hsz4 := Keep.size hk2
 replace hr := hr.k0 hk2
 replace hA := hA.keep0 hk2
 replace hR := hR.keep hk2 nk
 replace hK0 := hK0.tn hk2
 have hwl9 := waitL_len (ts := ts) (of := (j : Int)) (now := now) rs 0
 have hdn9 := decN_bnd (of := (j : Int)) rs
 have hsl9 := sortD_len (fun r => (tallyT s r).a) (waitL ts (j : Int) now 0 rs)
 obtain ⟨nb9, hnb9, hnl9⟩ := begN ts rs j now
 have hcp9 := SlT.cap_le hA3
 replace hA3 := hA3.take nb9
 have ltA3 := SlT.lt hA3
 have htl9 : ((sortD (fun r => (tallyT s r).a) (waitL ts (j : Int) now 0 rs)).take nb9).length = nb9 := by rw [List.length_take, hsl9]; omega
 generalize hls9 : (sortD (fun r => (tallyT s r).a) (waitL ts (j : Int) now 0 rs)).take nb9 = ls at hA3 htl9
 refine On 10 [0, 2, 3, 8, 9] <| Oer <| On 6 [0, 2, 3, 9, 22, 24, 27] <| Lr 0 (.slice A ts.length cap) hr <| On 8 [0, 3, 9, 22, 24, 28, 29] ?_
 obtain ⟨b5, o5, L5, T5, rfl, hat5⟩ := SlT.opn hA
 have hb5lt := hat5.blk.lt
 have hob6 := hAr b5 ⟨_, rfl, rfl⟩
 have hob7 := hAlt b5 ⟨_, rfl, rfl⟩
 refine Oi (b := b5) (o := o5) (len := ts.length) (cap := cap) (j := j) (some 30) 29 (.tmp 28) (.tmp 29) 27 18 144 .i64 <| On 10 [0, 3, 9, 22, 24, 31] <| Lc (o5 + j * 18) (nt ((trkA ts (j : Int)).most)) hat5.blk (At.cell0 hat5 (es_at htk) rfl) ?_
 have hw8 : i64.wrap (((trkA ts (j : Int)).most) - (decN (j : Int) rs)) = ((trkA ts (j : Int)).most) - (decN (j : Int) rs) := wrp
 refine On 13 [0, 3, 22, 24, 34] <| Oq (u := nt (i64.wrap (((trkA ts (j : Int)).most) - (decN (j : Int) rs)))) (v := nt (((trkA ts (j : Int)).most) - (decN (j : Int) rs))) 34 (by rw [hw8]) <| On 15 [0, 3, 22, 36] <| Op_ [(0, pt r),(3, nt now),(22, .slice A3 ((waitL ts (j : Int) now 0 rs).length) cap3),(36, nt (imin (((waitL ts (j : Int) now 0 rs).length : Nat) : Int) (imax (((trkA ts (j : Int)).most) - (decN (j : Int) rs)) 0)))] <| Oq (u := nt (imin (((waitL ts (j : Int) now 0 rs).length : Nat) : Int) (imax (((trkA ts (j : Int)).most) - (decN (j : Int) rs)) 0))) (v := nt (nb9 : Int)) 36 (by rw [show imin (((waitL ts (j : Int) now 0 rs).length : Nat) : Int) (imax (((trkA ts (j : Int)).most) - (decN (j : Int) rs)) 0) = (nb9 : Int) from hnb9]) <| Ost (base := A3) (len := (waitL ts (j : Int) now 0 rs).length) (cap := cap3) (j := nb9) 3 1 8 <| Oen [0, 3, 37, 38, 39] <| V_block <| Vp [(0, pt r),(3, nt now),(37, .slice A3 nb9 cap3),(38, nt (nb9 : Int)),(39, nt 0)] <| V_loop (fun k wI e => ∃ i : Nat, ∃ Hi : Nat → Prop, (k + i = nb9) ∧ (Rfr Hi wI r g ts ((ls.take i).foldl (setN now) rs)) ∧ (∀ q, Hi q → 0 ≤ q) ∧ (∀ q, Hi q → H q ∨ w.heap.size ≤ q) ∧ Keep (only g) w1 wI ∧ e = [(0, pt r),(3, nt now),(37, .slice A3 nb9 cap3),(38, nt (nb9 : Int)),(39, nt (i : Int))]) nb9 ⟨0, H, by omega, hR, (fun q _ => Nat.zero_le q), hHr, Keep.refl _ _, rfl⟩ ?_
 rintro k10 w9 _ ⟨i, Hi, hki, hRi, hHio, hHifr, hk11, rfl⟩
 have hsz12 := Keep.size hk11
 replace hr := hr.keep hk11 (fun hs => by have h1 := hgo _ hs; have h2 := hgl _ hs; omega)
 replace hA3 := hA3.keep hk11 (fun q hq hs => by have g0 := ow3 q hq; have g1 := ltA3 q hq; have h1 := hgo q hs; have h2 := hgl q hs; omega)
 replace hK0 := Keep.fresh hK0 hk11 (by intro i hi hs; first | exact hs | (exfalso; have h1 := hgo i hs; have h2 := hgl i hs; omega) | (have h1 := hgo i hs; have h2 := hgl i hs; show _ ∨ _; omega))
 have hzhk11 := Keep.size hk11
 have lt13 := Rfr.lt hRi
 have hsn := setsN_len (now := now) (ls.take i) rs
 refine Vs [(0, pt r),(3, nt now),(37, .slice A3 nb9 cap3),(38, nt (nb9 : Int)),(39, nt (i : Int)),(40, .bool (decide ((i : Int) < (nb9 : Int))))] <| V_seq <| Vi ((i : Int) < (nb9 : Int)) (fun hc14 => ?_) (fun hc14 => ?_)
 ·
  refine Vsk <| V_seq <| V_block <| Vr ?_
  obtain ⟨b15, o15, L15, T15, rfl, hat15⟩ := SlT.opn hA3
  have hb15lt := hat15.blk.lt
  have hob16 := ow3 b15 ⟨_, rfl, rfl⟩
  have hob17 := ltA3 b15 ⟨_, rfl, rfl⟩
  refine Oi (b := b15) (o := o15) (len := nb9) (cap := cap3) (j := i) (some 41) 72 (.tmp 37) (.tmp 39) 3 1 8 .i64 ?_
  obtain ⟨x18, hx19⟩ := exAt (xs := ls) (i := i)
  have hmx : 0 ≤ x18 ∧ x18 < (rs.length : Int) := by have h1 := List.mem_of_getElem? hx19; rw [← hls9] at h1; have h2 := waitL_mem (sortD_mem (List.mem_of_mem_take h1)); omega
  have hmg := getA_len (rs := (ls.take i).foldl (setN now) rs) (i := x18) (by omega)
  have hmt := (getA_at (Rfr.inn hRi) hmg).2.1
  refine Lc (o15 + i * 1) (nt x18) hat15.blk (At.cell0 hat15 (es_at hx19) rfl) <| On 3 [0, 3, 11, 37, 38, 39] <| Oer <| On 2 [0, 3, 11, 37, 38, 39, 44, 45] <| Kk (rget_spec Hi r g ts ((ls.take i).foldl (setN now) rs) x18 _ hRi) fun w22 hk23 _ => ?_
  replace hk11 := hk11.tn hk23
  replace hRi := hRi.keep hk23 nk
  refine On 6 [0, 3, 11, 37, 38, 39, 47, 48] <| Alc_ 57 (.agg (Rfm.cells Rfm.zero).toArray) (Rfm.cells Rfm.zero) ?_
  intro b25 w25 e25 hb25 k25 z25
  have hsz26 := Keep.size k25
  replace hr := hr.k0 (hk23.tr k25)
  replace hk11 := hk11.tn k25
  replace hRi := hRi.keep k25 nk
  have hb25lt := hb25.lt
  refine Sg 0 (Rfm.cells (getA ((ls.take i).foldl (setN now) rs) x18)) hb25 (Rfm.len _) (Rfm.one _) ?_
  intro w27 hb25_30 hk28 hz29
  replace hb25_30 : Blk w27 b25 (Rfm.cells (getA ((ls.take i).foldl (setN now) rs) x18)) 57 := (Blk.eqL (Rfm.over _ _) hb25_30)
  have hsz31 := Keep.size hk28
  replace hr := hr.k1 hk28
  replace hk11 := Keep.fr hk11 hk28
  replace hRi := hRi.keep hk28 (fun q hq hs => by have hs : q = b25 := hs; have g0 := hHio q hq; have g1 := lt13 q hq; omega)
  refine On 9 [0, 3, 11, 12, 37, 38, 39] <| Oer <| On 2 [0, 3, 11, 12, 37, 38, 39, 49, 50] <| St_ 39 (nt now) hb25_30 ?_
  intro w32 hb25_35 hk33 hz34
  replace hb25_35 : Blk w32 b25 (Rfm.cells { (getA ((ls.take i).foldl (setN now) rs) x18) with since := now }) 57 := (Blk.eqL (by kernel_rfl) hb25_35)
  have hsz36 := Keep.size hk33
  replace hr := hr.k1 hk33
  replace hk11 := Keep.fr hk11 hk33
  replace hRi := hRi.keep hk33 (fun q hq hs => by have hs : q = b25 := hs; have g0 := hHio q hq; have g1 := lt13 q hq; omega)
  refine Oe <| V_draws (acts [6]) none_ [[0, 1, 2, 3, 4, 5, 6]] (by kernel_rfl) (by repeat first | exact (by first | exact sure_body (by rintro _ _ ⟨_, _, h, _⟩; exact ⟨_, h⟩) | exact sure_body (by rintro _ _ ⟨h, _⟩; exact ⟨_, h⟩)) | refine sure_then ?_ | refine sure_block ?_ | refine sure_join ?_) (by kernel_rfl) ?_
  intro w38 hk37 he39 L hL40
  have hsz41 := Keep.size hk37
  replace hr := hr.k0 hk37
  replace hb25_35 := hb25_35.k0 hk37
  replace hk11 := hk11.tn hk37
  replace hRi := hRi.keep hk37 nk
  have qhr := hr
  have qhb25_35 := hb25_35
  have K42 : Keep none_ w38 w38 := Keep.refl _ _
  obtain rfl := List.mem_singleton.1 hL40
  refine Gn [3, 4, 5, 6] [0, 3, 11, 12, 37, 38, 39, 53] <| Mr 1 (pt g) qhr <| Gn [5, 6] [0, 3, 12, 37, 38, 39, 54, 55] <| Ma 0 (Rfm.cells { (getA ((ls.take i).foldl (setN now) rs) x18) with since := now }) 45 qhb25_35 id (take_all (Rfm.len _)) (Rfm.len _) <| GI_final 6 (by kernel_rfl) (by kernel_rfl) <| Kg (rset_spec Hi r g ts ((ls.take i).foldl (setN now) rs) x18 ({ (getA ((ls.take i).foldl (setN now) rs) x18) with since := now }) _ hRi (by omega) hmt) ?_
  rintro _ w47 ⟨rfl, ⟨H49, hR50, hfr51⟩, hk48⟩
  refine ⟨_, rfl, ?_⟩
  have hsz52 := Keep.size hk48
  replace hk11 := Keep.fresh hk11 hk48 (by intro i hi hs; first | exact hs | (exfalso; have h1 := hgo i hs; have h2 := hgl i hs; omega) | (have h1 := hgo i hs; have h2 := hgl i hs; show _ ∨ _; omega))
  have own54 : ∀ q, H49 q → 0 ≤ q ∧ q ≠ b25 := fun q hq => by rcases hfr51 q hq with h | h; (have h1 := hHio q h; have h2 := lt13 q h; omega); omega
  have lt53 := Rfr.lt hR50
  have rel55 : ∀ q, H49 q → H q ∨ w.heap.size ≤ q := fun q hq => by rcases hfr51 q hq with h | h; exact hHifr q h; exact .inr (by omega)
  refine OI_end rfl <| X_block <| X_then <| V_region ?_
  have hw56 : i64.wrap ((i : Int) + 1) = ((i + 1 : Nat) : Int) := wrp
  refine On 1 [0, 3, 37, 38, 58] <| Oq (u := nt (i64.wrap ((i : Int) + 1))) (v := nt ((i + 1 : Nat) : Int)) 58 (by rw [hw56]) <| Os 2 [(0, pt r),(3, nt now),(37, sl_ b15 o15 nb9 cap3),(38, nt (nb9 : Int)),(39, nt ((i + 1 : Nat) : Int))] <| OI_end rfl ?_
  exact V_again (k10 - 1) (by omega) [(0, pt r),(3, nt now),(37, sl_ b15 o15 nb9 cap3),(38, nt (nb9 : Int)),(39, nt ((i + 1 : Nat) : Int))] rfl ⟨i + 1, H49, by omega, by rw [setsN_step hx19]; exact hR50, (fun q hq => by have h1 := own54 q hq; omega), rel55, hk11, rfl⟩
 refine V_exit <| X_exit_then <| X_exit_then <| X_exit_here ?_
 have hie : i = nb9 := by omega
 have hfin : begR ts s now rs (j : Int) = (ls.take i).foldl (setN now) rs := by unfold begR begL; rw [hnb9, Int.toNat_natCast, hls9, hie, List.take_of_length_le (by omega)]
 exact X_end _ rfl ⟨rfl, ⟨Hi, (by rw [hfin]; exact hRi), hHifr⟩, hK0⟩
end Go.Al
namespace Go.Al
open Go Go.RowKit Go.Proofs
set_option maxHeartbeats 1000000 in
theorem decides_spec (H : Nat → Prop) (r g : Nat) (ts : List Trk) (rs : List Rfm) (x : Rfm) (y : Tly) (iss now : Int) (w : World) (hR : Rfr H w r g ts rs) (htr : 0 ≤ x.track ∧ x.track < ts.length) : Calls Tryz.prog 50 #[pt r, .agg x.cells.toArray, .agg y.cells.toArray, nt iss, nt now] w fun e w' => e = .returned (.tuple #[.agg (decY ts x y iss now).cells.toArray, nt (decE ts x y iss now)]) ∧ Keep none_ w w' := by
 have hHlt := Rfr.lt hR
 have hrH := Rfr.at_ hR
 have hgH := Rfr.atg hR
 have hrlt := hHlt _ hrH
 have hglt := hHlt _ hgH
 have hin := Rfr.inn hR
 obtain ⟨A, cap, hr, hA, hAo, hrg⟩ := Rfr.parts hR
 have hAlt := SlT.lt hA
 have hAr : ∀ q, inA A q → q ≠ r ∧ q ≠ g ∧ q < w.heap.size := fun q hq => ⟨(hAo q hq).2.1, (hAo q hq).2.2, hAlt q hq⟩
 have hgo : ∀ q, only g q → q ≠ r ∧ q = g := fun q hq => ⟨fun e => hrg (e.symm.trans hq), hq⟩
 have hgl : ∀ q, only g q → q < w.heap.size := fun q hq => by rw [show q = g from hq]; exact hglt
 have hHo : ∀ q, H q → 0 ≤ q := fun q _ => Nat.zero_le q
 have htl := hin.tl
 have hrl := hin.rl
 obtain ⟨jt, hjt, hjl, htk, htm⟩ := trkA_at htr
 have hokt := hin.tok _ htm
 have hK0 := Keep.refl none_ w
 refine enterM Tryz.func50 rfl [pt r, .agg (Rfm.cells x).toArray, .agg (Tly.cells y).toArray, nt iss, nt now] 77 rfl rfl rfl ?_
 refine Vp [(0, pt r),(1, .agg (Rfm.cells x).toArray),(2, .agg (Tly.cells y).toArray),(3, nt iss),(4, nt now)] <| Vr <| OI_box 57 (.tmp 1) (.agg (Rfm.cells x).toArray) (Rfm.cells x) (some 6) (by kernel_rfl) (by kernel_rfl) rfl ?_
 intro b1 w1 e1 hb1 k1 z1
 have hsz2 := Keep.size k1
 replace hK0 := hK0.tn k1
 have hb1lt := hb1.lt
 refine OI_box 55 (.tmp 2) (.agg (Tly.cells y).toArray) (Tly.cells y) (some 7) (by kernel_rfl) (by kernel_rfl) rfl ?_
 intro b3 w3 e3 hb3 k3 z3
 have hsz4 := Keep.size k3
 replace hK0 := hK0.tn k3
 have hb3lt := hb3.lt
 refine Alc_ 57 (.agg (Rfm.cells Rfm.zero).toArray) (Rfm.cells Rfm.zero) ?_
 intro b5 w5 e5 hb5 k5 z5
 have hsz6 := Keep.size k5
 replace hr := hr.k0 ((k1.tr k3).tr k5)
 replace hb1 := hb1.k0 (k3.tr k5)
 replace hb3 := hb3.k0 k5
 replace hA := hA.keep0 ((k1.tr k3).tr k5)
 replace hK0 := hK0.tn k5
 have hb5lt := hb5.lt
 refine On 4 [0, 3, 4, 6, 7, 10] <| Oe <| V_seq <| Vr <| On 1 [0, 3, 4, 6, 7, 10, 13] <| Lr 39 (nt x.since) hb1 <| Oen [0, 3, 4, 6, 7, 10, 15] <| Vi (x.since = -1) (fun hc7 => ?_) (fun hc7 => ?_)
 ·
  refine V_seq <| Vr <| On 2 [6, 10, 16, 17] <| Lr 35 (nt x.sub) hb1 <| Oen [6, 10, 20] <| Vi (i64.wrap (now - x.sub) ≥ 30) (fun hc8 => ?_) (fun hc8 => ?_)
  ·
   refine Vr <| La 0 (Rfm.cells x) 45 hb1 (take_all (Rfm.len _)) (Rfm.len _) <| Sg 0 (Rfm.cells x) hb5 (Rfm.len _) (Rfm.one _) ?_
   intro w9 hb5_12 hk10 hz11
   replace hb5_12 : Blk w9 b5 (Rfm.cells x) 57 := (Blk.eqL (Rfm.over _ _) hb5_12)
   have hsz13 := Keep.size hk10
   replace hK0 := Keep.fr hK0 hk10
   refine Ose [(10, pt b5),(11, nt 4)] <| Rt <| X_ret_then ?_
   have hY : decY ts x y iss now = x := by unfold decY; rw [if_pos hc7]
   have hE : decE ts x y iss now = 4 := by unfold decE; rw [if_pos hc7, if_pos hc8]
   exact leave0 (.tuple #[.agg (Rfm.cells x).toArray, nt 4]) (.inl rfl) (res_agg_tmp (m := 45) rfl rfl rfl (by kernel_rfl) hb5_12 rfl) ⟨by rw [hY, hE] <;> rfl, hK0⟩
  refine Vsk <| Vr <| La 0 (Rfm.cells x) 45 hb1 (take_all (Rfm.len _)) (Rfm.len _) <| Sg 0 (Rfm.cells x) hb5 (Rfm.len _) (Rfm.one _) ?_
  intro w14 hb5_17 hk15 hz16
  replace hb5_17 : Blk w14 b5 (Rfm.cells x) 57 := (Blk.eqL (Rfm.over _ _) hb5_17)
  have hsz18 := Keep.size hk15
  replace hK0 := Keep.fr hK0 hk15
  refine Ose [(10, pt b5),(11, nt 0)] <| Rt ?_
  have hY : decY ts x y iss now = x := by unfold decY; rw [if_pos hc7]
  have hE : decE ts x y iss now = 0 := by unfold decE; rw [if_pos hc7, if_neg hc8]
  exact leave0 (.tuple #[.agg (Rfm.cells x).toArray, nt 0]) (.inl rfl) (res_agg_tmp (m := 45) rfl rfl rfl (by kernel_rfl) hb5_17 rfl) ⟨by rw [hY, hE] <;> rfl, hK0⟩
 refine Vsk <| V_seq <| V_draws (acts [8, 9]) none_ [[8, 0, 1, 2, 3, 4, 5, 6, 7, 9]] (by kernel_rfl) (by repeat first | exact (by first | exact sure_postM | exact sure_rQ2 | exact sure_no) | refine sure_then ?_ | refine sure_block ?_ | refine sure_join ?_) (by kernel_rfl) ?_
 intro w20 hk19 he21 L hL22
 have hsz23 := Keep.size hk19
 replace hr := hr.k0 hk19
 replace hb1 := hb1.k0 hk19
 replace hA := hA.keep0 hk19
 replace hK0 := hK0.tn hk19
 have qhr := hr
 have qhb1 := hb1
 have qhA := hA
 have K24 : Keep none_ w20 w20 := Keep.refl _ _
 obtain rfl := List.mem_singleton.1 hL22
 refine GI_alloc 27 (.agg (Trk.cells Trk.zero).toArray) (Trk.cells Trk.zero) (some 12) (by kernel_rfl) (by kernel_rfl) K24 (by kernel_rfl) (by kernel_rfl) ?_
 intro b25 w25 e25 hb25 k25 z25 K26
 have hsz27 := Keep.size k25
 replace hb1 := hb1.k0 k25
 replace hb3 := hb3.k0 (hk19.tr k25)
 replace hb5 := hb5.k0 (hk19.tr k25)
 replace hA := hA.keep0 k25
 replace hK0 := hK0.tn k25
 have hb25lt := hb25.lt
 refine Gn [3, 4, 5, 6, 7, 9] [3, 4, 6, 7, 10, 12, 25] <| Mr 0 (.slice A ts.length cap) qhr <| Gn [5, 6, 7, 9] [3, 4, 6, 7, 10, 12, 26, 27] <| Gc0 3 (.tmp 27) 1 (nt x.track) (some 28) qhb1 rfl ?_
 obtain ⟨b28, o28, L28, T28, rfl, hat28⟩ := SlT.opn hA
 have hb28lt := hat28.blk.lt
 have hob29 := hAr b28 ⟨_, rfl, rfl⟩
 have hob30 := hAlt b28 ⟨_, rfl, rfl⟩
 obtain ⟨qL28, qT28, qhat28⟩ := SlT.openA qhA (by first | omega | (simp; done) | (simp; omega))
 refine Gp_ [(3, nt iss),(4, nt now),(6, pt b1),(7, pt b3),(10, pt b5),(12, pt b25),(26, sl_ b28 o28 ts.length cap),(28, nt x.track)] <| Gq_ (u := nt x.track) (v := nt (jt : Int)) 28 (by rw [hjt]) <| Gi (b := b28) (o := o28) (len := ts.length) (cap := cap) (j := jt) 27 18 144 .i64 <| Ma (o28 + jt * 18) (Trk.cells (trkA ts x.track)) 18 qhat28.blk id (At.elem' qhat28 (es_at htk)) (At.len qhat28 (es_at htk)) <| GI_final 9 (by kernel_rfl) (by kernel_rfl) <| Sg 0 (Trk.cells (trkA ts x.track)) hb25 (Trk.len _) (Trk.one _) ?_
 intro w31 hb25_34 hk32 hz33
 replace hb25_34 : Blk w31 b25 (Trk.cells (trkA ts x.track)) 27 := (Blk.eqL (Trk.over _ _) hb25_34)
 have hsz35 := Keep.size hk32
 replace hb1 := hb1.k1 hk32
 replace hb3 := hb3.k1 hk32
 replace hb5 := hb5.k1 hk32
 replace hK0 := Keep.fr hK0 hk32
 refine Oe <| V_seq <| V_block <| Vr <| La 0 (Trk.cells (trkA ts x.track)) 18 hb25_34 (take_all (Trk.len _)) (Trk.len _) <| La 0 (Tly.cells y) 3 hb3 (take_all (Tly.len _)) (Tly.len _) <| On 5 [4, 6, 10, 12, 32, 33, 34, 35, 36] <| Lr 39 (nt x.since) hb1 <| On 7 [4, 6, 10, 12, 32, 33, 34, 38] <| Kk (passing_spec (trkA ts x.track) y iss (i64.wrap (now - x.since)) _ (hokt.2.2.2.2.2.2.2.1) (hokt.2.2.2.2.2.2.2.2.1)) fun w36 hk37 _ => ?_
 replace hb1 := hb1.k0 hk37
 replace hb5 := hb5.k0 hk37
 replace hb25_34 := hb25_34.k0 hk37
 replace hK0 := hK0.tn hk37
 refine Oen [4, 6, 10, 12, 31] <| Vb (!(passB (trkA ts x.track) y iss (i64.wrap (now - x.since)))) (fun hc39 => ?_) (fun hc39 => ?_)
 ·
  refine V_region <| On 1 [4, 6, 10, 12, 41] <| St_ 40 (nt (-1)) hb1 ?_
  intro w40 hb1_43 hk41 hz42
  replace hb1_43 : Blk w40 b1 (Rfm.cells { x with till := -1 }) 57 := (Blk.eqL (by kernel_rfl) hb1_43)
  have hsz44 := Keep.size hk41
  replace hb5 := hb5.k1 hk41
  replace hb25_34 := hb25_34.k1 hk41
  replace hK0 := Keep.fr hK0 hk41
  refine OI_end rfl <| X_block <| X_then <| V_seq <| V_block <| Vr <| On 1 [4, 6, 10, 12, 52] <| Lr 40 (nt (-1)) hb1_43 <| Oen [4, 6, 10, 12, 51] <| Vf <| Vr <| On 1 [4, 6, 10, 12, 63] <| Lr 40 (nt (-1)) hb1_43 <| On 6 [6, 10, 12, 66, 67, 68] <| Lr 39 (nt x.since) hb1_43 <| On 9 [6, 10, 66, 70, 71] <| Lr 3 (nt ((trkA ts x.track).decision)) hb25_34 <| Oen [6, 10, 62] <| Vi (i64.wrap (now - x.since) ≥ (trkA ts x.track).decision) (fun hc45 => ?_) (fun hc45 => ?_)
  ·
   refine Vr <| La 0 (Rfm.cells { x with till := -1 }) 45 hb1_43 (take_all (Rfm.len _)) (Rfm.len _) <| Sg 0 (Rfm.cells { x with till := -1 }) hb5 (Rfm.len _) (Rfm.one _) ?_
   intro w46 hb5_49 hk47 hz48
   replace hb5_49 : Blk w46 b5 (Rfm.cells ({ x with till := -1 })) 57 := (Blk.eqL (Rfm.over _ _) hb5_49)
   have hsz50 := Keep.size hk47
   replace hK0 := Keep.fr hK0 hk47
   refine Ose [(10, pt b5),(11, nt 3)] <| V_ret <| X_ret_block <| X_ret_then ?_
   have hu : tillI ts x y iss now = -1 := by unfold tillI; rw [if_pos (by simpa using hc39)]
   have hw1 : w64 (now - x.since) = i64.wrap (now - x.since) := rfl
   have hw2 : w64 (now + (trkA ts x.track).confirm) = i64.wrap (now + (trkA ts x.track).confirm) := rfl
   have hY : decY ts x y iss now = { x with till := -1 } := by unfold decY; rw [if_neg hc7, hu]
   have hE : decE ts x y iss now = 3 := by unfold decE; rw [if_neg hc7, hu]; (repeat' split) <;> first | rfl | (exfalso; omega)
   exact leave0 (.tuple #[.agg (Rfm.cells ({ x with till := -1 })).toArray, nt 3]) (.inl rfl) (res_agg_tmp (m := 45) rfl rfl rfl (by kernel_rfl) hb5_49 rfl) ⟨by rw [hY, hE] <;> rfl, hK0⟩
  refine V_skip <| X_block <| X_then <| Vr <| La 0 (Rfm.cells { x with till := -1 }) 45 hb1_43 (take_all (Rfm.len _)) (Rfm.len _) <| Sg 0 (Rfm.cells { x with till := -1 }) hb5 (Rfm.len _) (Rfm.one _) ?_
  intro w51 hb5_54 hk52 hz53
  replace hb5_54 : Blk w51 b5 (Rfm.cells ({ x with till := -1 })) 57 := (Blk.eqL (Rfm.over _ _) hb5_54)
  have hsz55 := Keep.size hk52
  replace hK0 := Keep.fr hK0 hk52
  refine Ose [(10, pt b5),(11, nt 0)] <| V_ret ?_
  have hu : tillI ts x y iss now = -1 := by unfold tillI; rw [if_pos (by simpa using hc39)]
  have hw1 : w64 (now - x.since) = i64.wrap (now - x.since) := rfl
  have hw2 : w64 (now + (trkA ts x.track).confirm) = i64.wrap (now + (trkA ts x.track).confirm) := rfl
  have hY : decY ts x y iss now = { x with till := -1 } := by unfold decY; rw [if_neg hc7, hu]
  have hE : decE ts x y iss now = 0 := by unfold decE; rw [if_neg hc7, hu]; (repeat' split) <;> first | rfl | (exfalso; omega)
  exact leave0 (.tuple #[.agg (Rfm.cells ({ x with till := -1 })).toArray, nt 0]) (.inl rfl) (res_agg_tmp (m := 45) rfl rfl rfl (by kernel_rfl) hb5_54 rfl) ⟨by rw [hY, hE] <;> rfl, hK0⟩
 refine Vr <| On 1 [4, 6, 10, 12, 43] <| Lr 40 (nt x.till) hb1 <| Oen [4, 6, 10, 12, 42] <| Vi (x.till = -1) (fun hc56 => ?_) (fun hc56 => ?_)
 ·
  refine V_region <| On 2 [4, 6, 10, 12, 46, 47] <| Lr 4 (nt ((trkA ts x.track).confirm)) hb25_34 <| On 5 [4, 6, 10, 12, 49, 50] <| St_ 40 (nt (i64.wrap (now + ((trkA ts x.track).confirm)))) hb1 ?_
  intro w57 hb1_60 hk58 hz59
  replace hb1_60 : Blk w57 b1 (Rfm.cells { x with till := i64.wrap (now + ((trkA ts x.track).confirm)) }) 57 := (Blk.eqL (by kernel_rfl) hb1_60)
  have hsz61 := Keep.size hk58
  replace hb5 := hb5.k1 hk58
  replace hb25_34 := hb25_34.k1 hk58
  replace hK0 := Keep.fr hK0 hk58
  refine OI_end rfl <| X_block <| X_then <| V_seq <| V_block <| Vr <| On 1 [4, 6, 10, 12, 52] <| Lr 40 (nt (i64.wrap (now + ((trkA ts x.track).confirm)))) hb1_60 <| On 4 [4, 6, 10, 12, 55] ?_
  by_cases hg62 : i64.wrap (now + ((trkA ts x.track).confirm)) = -1
  ·
   refine Nt 55 hg62 <| Oen [4, 6, 10, 12, 51] <| Vf <| Vr <| On 1 [4, 6, 10, 12, 63] <| Lr 40 (nt (i64.wrap (now + ((trkA ts x.track).confirm)))) hb1_60 <| On 4 [4, 6, 10, 12, 66] <| Oq (u := .bool (decide (i64.wrap (now + ((trkA ts x.track).confirm)) = -1))) (v := .bool true) 66 (by rw [decide_eq_true hg62]) <| On 6 [6, 10, 12, 66, 67, 68] <| Lr 39 (nt x.since) hb1_60 <| On 9 [6, 10, 66, 70, 71] <| Lr 3 (nt ((trkA ts x.track).decision)) hb25_34 <| Oen [6, 10, 62] <| Vi (i64.wrap (now - x.since) ≥ (trkA ts x.track).decision) (fun hc64 => ?_) (fun hc64 => ?_)
   ·
    refine Vr <| La 0 (Rfm.cells { x with till := i64.wrap (now + ((trkA ts x.track).confirm)) }) 45 hb1_60 (take_all (Rfm.len _)) (Rfm.len _) <| Sg 0 (Rfm.cells { x with till := i64.wrap (now + ((trkA ts x.track).confirm)) }) hb5 (Rfm.len _) (Rfm.one _) ?_
    intro w65 hb5_68 hk66 hz67
    replace hb5_68 : Blk w65 b5 (Rfm.cells ({ x with till := i64.wrap (now + ((trkA ts x.track).confirm)) })) 57 := (Blk.eqL (Rfm.over _ _) hb5_68)
    have hsz69 := Keep.size hk66
    replace hK0 := Keep.fr hK0 hk66
    refine Ose [(10, pt b5),(11, nt 3)] <| V_ret <| X_ret_block <| X_ret_then ?_
    have hpb : ¬ passB (trkA ts x.track) y iss (w64 (now - x.since)) = false := by simpa using hc39
    have hu : tillI ts x y iss now = w64 (now + (trkA ts x.track).confirm) := by unfold tillI; rw [if_neg hpb, if_pos hc56]
    have hw1 : w64 (now - x.since) = i64.wrap (now - x.since) := rfl
    have hw2 : w64 (now + (trkA ts x.track).confirm) = i64.wrap (now + (trkA ts x.track).confirm) := rfl
    have hY : decY ts x y iss now = { x with till := w64 (now + (trkA ts x.track).confirm) } := by unfold decY; rw [if_neg hc7, hu]
    have hE : decE ts x y iss now = 3 := by unfold decE; rw [if_neg hc7, hu]; (repeat' split) <;> first | rfl | (exfalso; omega)
    exact leave0 (.tuple #[.agg (Rfm.cells ({ x with till := i64.wrap (now + ((trkA ts x.track).confirm)) })).toArray, nt 3]) (.inl rfl) (res_agg_tmp (m := 45) rfl rfl rfl (by kernel_rfl) hb5_68 rfl) ⟨by rw [hY, hE] <;> rfl, hK0⟩
   refine V_skip <| X_block <| X_then <| Vr <| La 0 (Rfm.cells { x with till := i64.wrap (now + ((trkA ts x.track).confirm)) }) 45 hb1_60 (take_all (Rfm.len _)) (Rfm.len _) <| Sg 0 (Rfm.cells { x with till := i64.wrap (now + ((trkA ts x.track).confirm)) }) hb5 (Rfm.len _) (Rfm.one _) ?_
   intro w70 hb5_73 hk71 hz72
   replace hb5_73 : Blk w70 b5 (Rfm.cells ({ x with till := i64.wrap (now + ((trkA ts x.track).confirm)) })) 57 := (Blk.eqL (Rfm.over _ _) hb5_73)
   have hsz74 := Keep.size hk71
   replace hK0 := Keep.fr hK0 hk71
   refine Ose [(10, pt b5),(11, nt 0)] <| V_ret ?_
   have hpb : ¬ passB (trkA ts x.track) y iss (w64 (now - x.since)) = false := by simpa using hc39
   have hu : tillI ts x y iss now = w64 (now + (trkA ts x.track).confirm) := by unfold tillI; rw [if_neg hpb, if_pos hc56]
   have hw1 : w64 (now - x.since) = i64.wrap (now - x.since) := rfl
   have hw2 : w64 (now + (trkA ts x.track).confirm) = i64.wrap (now + (trkA ts x.track).confirm) := rfl
   have hY : decY ts x y iss now = { x with till := w64 (now + (trkA ts x.track).confirm) } := by unfold decY; rw [if_neg hc7, hu]
   have hE : decE ts x y iss now = 0 := by unfold decE; rw [if_neg hc7, hu]; (repeat' split) <;> first | rfl | (exfalso; omega)
   exact leave0 (.tuple #[.agg (Rfm.cells ({ x with till := i64.wrap (now + ((trkA ts x.track).confirm)) })).toArray, nt 0]) (.inl rfl) (res_agg_tmp (m := 45) rfl rfl rfl (by kernel_rfl) hb5_73 rfl) ⟨by rw [hY, hE] <;> rfl, hK0⟩
  refine Nf 55 hg62 <| On 5 [4, 6, 10, 12, 55, 56] <| Lr 40 (nt (i64.wrap (now + ((trkA ts x.track).confirm)))) hb1_60 <| Oen [4, 6, 10, 12, 51] <| Vi (i64.wrap (now + ((trkA ts x.track).confirm)) ≤ now) (fun hc75 => ?_) (fun hc75 => ?_)
  ·
   refine Vr <| La 0 (Rfm.cells { x with till := i64.wrap (now + ((trkA ts x.track).confirm)) }) 45 hb1_60 (take_all (Rfm.len _)) (Rfm.len _) <| Sg 0 (Rfm.cells { x with till := i64.wrap (now + ((trkA ts x.track).confirm)) }) hb5 (Rfm.len _) (Rfm.one _) ?_
   intro w76 hb5_79 hk77 hz78
   replace hb5_79 : Blk w76 b5 (Rfm.cells ({ x with till := i64.wrap (now + ((trkA ts x.track).confirm)) })) 57 := (Blk.eqL (Rfm.over _ _) hb5_79)
   have hsz80 := Keep.size hk77
   replace hK0 := Keep.fr hK0 hk77
   refine Ose [(10, pt b5),(11, nt 2)] <| V_ret <| X_ret_block <| X_ret_then ?_
   have hpb : ¬ passB (trkA ts x.track) y iss (w64 (now - x.since)) = false := by simpa using hc39
   have hu : tillI ts x y iss now = w64 (now + (trkA ts x.track).confirm) := by unfold tillI; rw [if_neg hpb, if_pos hc56]
   have hw1 : w64 (now - x.since) = i64.wrap (now - x.since) := rfl
   have hw2 : w64 (now + (trkA ts x.track).confirm) = i64.wrap (now + (trkA ts x.track).confirm) := rfl
   have hY : decY ts x y iss now = { x with till := w64 (now + (trkA ts x.track).confirm) } := by unfold decY; rw [if_neg hc7, hu]
   have hE : decE ts x y iss now = 2 := by unfold decE; rw [if_neg hc7, hu]; (repeat' split) <;> first | rfl | (exfalso; omega)
   exact leave0 (.tuple #[.agg (Rfm.cells ({ x with till := i64.wrap (now + ((trkA ts x.track).confirm)) })).toArray, nt 2]) (.inl rfl) (res_agg_tmp (m := 45) rfl rfl rfl (by kernel_rfl) hb5_79 rfl) ⟨by rw [hY, hE] <;> rfl, hK0⟩
  refine Vr <| On 1 [4, 6, 10, 12, 63] <| Lr 40 (nt (i64.wrap (now + ((trkA ts x.track).confirm)))) hb1_60 <| On 4 [4, 6, 10, 12, 66] <| Oq (u := .bool (decide (i64.wrap (now + ((trkA ts x.track).confirm)) = -1))) (v := .bool false) 66 (by rw [decide_eq_false hg62]) <| Oen [6, 10, 62] <| Vf <| V_skip <| X_block <| X_then <| Vr <| La 0 (Rfm.cells { x with till := i64.wrap (now + ((trkA ts x.track).confirm)) }) 45 hb1_60 (take_all (Rfm.len _)) (Rfm.len _) <| Sg 0 (Rfm.cells { x with till := i64.wrap (now + ((trkA ts x.track).confirm)) }) hb5 (Rfm.len _) (Rfm.one _) ?_
  intro w82 hb5_85 hk83 hz84
  replace hb5_85 : Blk w82 b5 (Rfm.cells ({ x with till := i64.wrap (now + ((trkA ts x.track).confirm)) })) 57 := (Blk.eqL (Rfm.over _ _) hb5_85)
  have hsz86 := Keep.size hk83
  replace hK0 := Keep.fr hK0 hk83
  refine Ose [(10, pt b5),(11, nt 0)] <| V_ret ?_
  have hpb : ¬ passB (trkA ts x.track) y iss (w64 (now - x.since)) = false := by simpa using hc39
  have hu : tillI ts x y iss now = w64 (now + (trkA ts x.track).confirm) := by unfold tillI; rw [if_neg hpb, if_pos hc56]
  have hw1 : w64 (now - x.since) = i64.wrap (now - x.since) := rfl
  have hw2 : w64 (now + (trkA ts x.track).confirm) = i64.wrap (now + (trkA ts x.track).confirm) := rfl
  have hY : decY ts x y iss now = { x with till := w64 (now + (trkA ts x.track).confirm) } := by unfold decY; rw [if_neg hc7, hu]
  have hE : decE ts x y iss now = 0 := by unfold decE; rw [if_neg hc7, hu]; (repeat' split) <;> first | rfl | (exfalso; omega)
  exact leave0 (.tuple #[.agg (Rfm.cells ({ x with till := i64.wrap (now + ((trkA ts x.track).confirm)) })).toArray, nt 0]) (.inl rfl) (res_agg_tmp (m := 45) rfl rfl rfl (by kernel_rfl) hb5_85 rfl) ⟨by rw [hY, hE] <;> rfl, hK0⟩
 refine V_skip <| X_block <| X_then <| V_seq <| V_block <| Vr <| On 1 [4, 6, 10, 12, 52] <| Lr 40 (nt x.till) hb1 <| On 4 [4, 6, 10, 12, 55] <| Oq (u := .bool (!(decide (x.till = -1)))) (v := .bool true) 55 (by rw [decide_eq_false hc56]; rfl) <| On 5 [4, 6, 10, 12, 55, 56] <| Lr 40 (nt x.till) hb1 <| Oen [4, 6, 10, 12, 51] <| Vi (x.till ≤ now) (fun hc88 => ?_) (fun hc88 => ?_)
 ·
  refine Vr <| La 0 (Rfm.cells x) 45 hb1 (take_all (Rfm.len _)) (Rfm.len _) <| Sg 0 (Rfm.cells x) hb5 (Rfm.len _) (Rfm.one _) ?_
  intro w89 hb5_92 hk90 hz91
  replace hb5_92 : Blk w89 b5 (Rfm.cells x) 57 := (Blk.eqL (Rfm.over _ _) hb5_92)
  have hsz93 := Keep.size hk90
  replace hK0 := Keep.fr hK0 hk90
  refine Ose [(10, pt b5),(11, nt 2)] <| V_ret <| X_ret_block <| X_ret_then ?_
  have hpb : ¬ passB (trkA ts x.track) y iss (w64 (now - x.since)) = false := by simpa using hc39
  have hu : tillI ts x y iss now = x.till := by unfold tillI; rw [if_neg hpb, if_neg hc56]
  have hw1 : w64 (now - x.since) = i64.wrap (now - x.since) := rfl
  have hw2 : w64 (now + (trkA ts x.track).confirm) = i64.wrap (now + (trkA ts x.track).confirm) := rfl
  have hY : decY ts x y iss now = { x with till := x.till } := by unfold decY; rw [if_neg hc7, hu]
  have hE : decE ts x y iss now = 2 := by unfold decE; rw [if_neg hc7, hu]; (repeat' split) <;> first | rfl | (exfalso; omega)
  exact leave0 (.tuple #[.agg (Rfm.cells x).toArray, nt 2]) (.inl rfl) (res_agg_tmp (m := 45) rfl rfl rfl (by kernel_rfl) hb5_92 rfl) ⟨by rw [hY, hE] <;> rfl, hK0⟩
 refine Vr <| On 1 [4, 6, 10, 12, 63] <| Lr 40 (nt x.till) hb1 <| On 4 [4, 6, 10, 12, 66] <| Oq (u := .bool (decide (x.till = -1))) (v := .bool false) 66 (by rw [decide_eq_false hc56]) <| Oen [6, 10, 62] <| Vf <| V_skip <| X_block <| X_then <| Vr <| La 0 (Rfm.cells x) 45 hb1 (take_all (Rfm.len _)) (Rfm.len _) <| Sg 0 (Rfm.cells x) hb5 (Rfm.len _) (Rfm.one _) ?_
 intro w95 hb5_98 hk96 hz97
 replace hb5_98 : Blk w95 b5 (Rfm.cells x) 57 := (Blk.eqL (Rfm.over _ _) hb5_98)
 have hsz99 := Keep.size hk96
 replace hK0 := Keep.fr hK0 hk96
 refine Ose [(10, pt b5),(11, nt 0)] <| V_ret ?_
 have hpb : ¬ passB (trkA ts x.track) y iss (w64 (now - x.since)) = false := by simpa using hc39
 have hu : tillI ts x y iss now = x.till := by unfold tillI; rw [if_neg hpb, if_neg hc56]
 have hw1 : w64 (now - x.since) = i64.wrap (now - x.since) := rfl
 have hw2 : w64 (now + (trkA ts x.track).confirm) = i64.wrap (now + (trkA ts x.track).confirm) := rfl
 have hY : decY ts x y iss now = { x with till := x.till } := by unfold decY; rw [if_neg hc7, hu]
 have hE : decE ts x y iss now = 0 := by unfold decE; rw [if_neg hc7, hu]; (repeat' split) <;> first | rfl | (exfalso; omega)
 exact leave0 (.tuple #[.agg (Rfm.cells x).toArray, nt 0]) (.inl rfl) (res_agg_tmp (m := 45) rfl rfl rfl (by kernel_rfl) hb5_98 rfl) ⟨by rw [hY, hE] <;> rfl, hK0⟩
end Go.Al
namespace Go.Al
open Go Go.RowKit Go.Proofs
section
variable {xs : List Acc} {cs : List Ci} {s : VS} {ts : List Trk} {rs : List Rfm} {who of after ref now st : Int}
end
set_option maxHeartbeats 1000000 in
theorem ends_spec (H : Nat → Prop) (r g : Nat) (ts : List Trk) (rs : List Rfm) (F : Nat → Prop) (v : Nat) (s : VS) (ref st now : Int) (w : World) (hR : Rfr H w r g ts rs) (hV : VotT F w v s) (hHF : ∀ q, H q → ¬ F q) (hx : getR rs ref = some (getA rs ref)) : Calls Tryz.prog 52 #[pt r, pt v, nt ref, nt st, nt now] w fun e w' => e = .returned (.agg (Evt.mk 1 ref st).cells.toArray) ∧ (∃ H' F', Rfr H' w' r g ts (endR s rs ref st now) ∧ VotT F' w' v (closeS s ref st now) ∧ (∀ q, H' q → H q ∨ w.heap.size ≤ q) ∧ (∀ q, F' q → F q ∨ w.heap.size ≤ q) ∧ (∀ q, H' q → ¬ F' q)) ∧ Keep (fun q => q = g ∨ F q) w w' := by
 have hHlt := Rfr.lt hR
 have hrH := Rfr.at_ hR
 have hgH := Rfr.atg hR
 have hrlt := hHlt _ hrH
 have hglt := hHlt _ hgH
 have hin := Rfr.inn hR
 obtain ⟨A, cap, hr, hA, hAo, hrg⟩ := Rfr.parts hR
 have hAlt := SlT.lt hA
 have hAr : ∀ q, inA A q → q ≠ r ∧ q ≠ g ∧ q < w.heap.size := fun q hq => ⟨(hAo q hq).2.1, (hAo q hq).2.2, hAlt q hq⟩
 have hgo : ∀ q, only g q → q ≠ r ∧ q = g := fun q hq => ⟨fun e => hrg (e.symm.trans hq), hq⟩
 have hgl : ∀ q, only g q → q < w.heap.size := fun q hq => by rw [show q = g from hq]; exact hglt
 have hHo : ∀ q, H q → 0 ≤ q := fun q _ => Nat.zero_le q
 have htl := hin.tl
 have hrl := hin.rl
 have hFlt := VotT.lt hV
 have hvlt := hFlt _ (VotT.at_ hV)
 have hVr : ∀ q, F q → q ≠ r := fun q hq e => hHF r hrH (e ▸ hq)
 have hHr : ∀ q, H q → H q ∨ w.heap.size ≤ q := fun _ h => .inl h
 have hFr : ∀ q, F q → F q ∨ w.heap.size ≤ q := fun _ h => .inl h
 obtain ⟨href, htr, hrat⟩ := getA_at hin hx
 obtain ⟨jt, hjt, hjl, htk, htm⟩ := trkA_at htr
 have hokt := hin.tok _ htm
 have hdep : 0 ≤ (trkA ts (getA rs ref).track).deposit ∧ (trkA ts (getA rs ref).track).deposit ≤ 1073741824 := hokt.2.1
 have hK0 : Keep (fun q => q = g ∨ F q) w w := Keep.refl _ _
 refine enterM Tryz.func52 rfl [pt r, pt v, nt ref, nt st, nt now] 42 rfl rfl rfl ?_
 refine Vp [(0, pt r),(1, pt v),(2, nt ref),(3, nt st),(4, nt now)] <| Vr <| Alc_ 53 (.agg #[nt 0, nt 0, nt 0]) [nt 0, nt 0, nt 0] ?_
 intro b1 w1 e1 hb1 k1 z1
 have hsz2 := Keep.size k1
 replace hR := hR.keep k1 nk
 replace hV := hV.keep k1 nk
 replace hK0 := hK0.tn k1
 have hb1lt := hb1.lt
 refine Oer <| On 2 [0, 1, 2, 3, 4, 10, 14, 15] <| Kk (rget_spec H r g ts rs ref _ hR) fun w3 hk4 _ => ?_
 replace hR := hR.keep hk4 nk
 replace hV := hV.keep hk4 nk
 replace hK0 := hK0.tn hk4
 refine On 6 [0, 1, 2, 3, 4, 10, 17, 18] <| Alc_ 57 (.agg (Rfm.cells Rfm.zero).toArray) (Rfm.cells Rfm.zero) ?_
 intro b6 w6 e6 hb6 k6 z6
 have hsz7 := Keep.size k6
 replace hr := hr.k0 ((k1.tr hk4).tr k6)
 replace hb1 := hb1.k0 (hk4.tr k6)
 replace hR := hR.keep k6 nk
 replace hV := hV.keep k6 nk
 replace hK0 := hK0.tn k6
 have hb6lt := hb6.lt
 refine Sg 0 (Rfm.cells (getA rs ref)) hb6 (Rfm.len _) (Rfm.one _) ?_
 intro w8 hb6_11 hk9 hz10
 replace hb6_11 : Blk w8 b6 (Rfm.cells (getA rs ref)) 57 := (Blk.eqL (Rfm.over _ _) hb6_11)
 have hsz12 := Keep.size hk9
 replace hr := hr.k1 hk9
 replace hb1 := hb1.k1 hk9
 replace hR := hR.keep hk9 (fun q hq hs => by have hs : q = b6 := hs; have g0 := hHo q hq; have g1 := hHlt q hq; omega)
 replace hV := hV.keep hk9 (fun q hq hs => by have hs : q = b6 := hs; have g0 := hVr q hq; have g1 := hFlt q hq; omega)
 replace hK0 := Keep.fr hK0 hk9
 refine On 9 [0, 1, 2, 3, 4, 10, 11] <| Oer <| On 4 [0, 1, 2, 3, 4, 10, 11, 19, 20, 21, 22] <| Kk (tally_spec F v s ref _ (hV).1) fun w13 hk14 _ => ?_
 replace hr := hr.k0 hk14
 replace hb1 := hb1.k0 hk14
 replace hb6_11 := hb6_11.k0 hk14
 replace hR := hR.keep hk14 nk
 replace hV := hV.keep hk14 nk
 replace hK0 := hK0.tn hk14
 refine On 6 [0, 1, 2, 3, 4, 10, 11, 19, 20, 23, 24] <| St_ 0 (nt st) hb6_11 ?_
 intro w16 hb6_19 hk17 hz18
 replace hb6_19 : Blk w16 b6 (Rfm.cells { (getA rs ref) with state := st }) 57 := (Blk.eqL (by kernel_rfl) hb6_19)
 have hsz20 := Keep.size hk17
 replace hr := hr.k1 hk17
 replace hb1 := hb1.k1 hk17
 replace hR := hR.keep hk17 (fun q hq hs => by have hs : q = b6 := hs; have g0 := hHo q hq; have g1 := hHlt q hq; omega)
 replace hV := hV.keep hk17 (fun q hq hs => by have hs : q = b6 := hs; have g0 := hVr q hq; have g1 := hFlt q hq; omega)
 replace hK0 := Keep.fr hK0 hk17
 refine On 8 [0, 1, 2, 3, 4, 10, 11, 20, 23, 25] <| St_ 41 (nt now) hb6_19 ?_
 intro w21 hb6_24 hk22 hz23
 replace hb6_24 : Blk w21 b6 (Rfm.cells { (getA rs ref) with state := st, stop := now }) 57 := (Blk.eqL (by kernel_rfl) hb6_24)
 have hsz25 := Keep.size hk22
 replace hr := hr.k1 hk22
 replace hb1 := hb1.k1 hk22
 replace hR := hR.keep hk22 (fun q hq hs => by have hs : q = b6 := hs; have g0 := hHo q hq; have g1 := hHlt q hq; omega)
 replace hV := hV.keep hk22 (fun q hq hs => by have hs : q = b6 := hs; have g0 := hVr q hq; have g1 := hFlt q hq; omega)
 replace hK0 := Keep.fr hK0 hk22
 refine On 10 [0, 1, 2, 3, 4, 10, 11, 23, 26] <| Sg 42 (Tly.cells (tallyT s ref)) hb6_24 (Tly.len _) (Tly.one _) ?_
 intro w26 hb6_29 hk27 hz28
 replace hb6_29 : Blk w26 b6 (Rfm.cells { (getA rs ref) with state := st, stop := now, t := (tallyT s ref) }) 57 := (Blk.eqL (by kernel_rfl) hb6_29)
 have hsz30 := Keep.size hk27
 replace hr := hr.k1 hk27
 replace hb1 := hb1.k1 hk27
 replace hR := hR.keep hk27 (fun q hq hs => by have hs : q = b6 := hs; have g0 := hHo q hq; have g1 := hHlt q hq; omega)
 replace hV := hV.keep hk27 (fun q hq hs => by have hs : q = b6 := hs; have g0 := hVr q hq; have g1 := hFlt q hq; omega)
 replace hK0 := Keep.fr hK0 hk27
 refine Oe <| V_seq <| V_draws (acts [6]) none_ [[0, 1, 2, 3, 4, 5, 6]] (by kernel_rfl) (by repeat first | exact (by first | exact sure_postM | exact sure_rQ2 | exact sure_no) | refine sure_then ?_ | refine sure_block ?_ | refine sure_join ?_) (by kernel_rfl) ?_
 intro w32 hk31 he33 L hL34
 have hsz35 := Keep.size hk31
 replace hr := hr.k0 hk31
 replace hb1 := hb1.k0 hk31
 replace hb6_29 := hb6_29.k0 hk31
 replace hR := hR.keep hk31 nk
 replace hV := hV.keep hk31 nk
 replace hK0 := hK0.tn hk31
 have qhr := hr
 have qhb6_29 := hb6_29
 have K36 : Keep none_ w32 w32 := Keep.refl _ _
 obtain rfl := List.mem_singleton.1 hL34
 refine Gn [3, 4, 5, 6] [1, 2, 3, 4, 10, 11, 29] <| Mr 1 (pt g) qhr <| Gn [5, 6] [1, 2, 3, 4, 10, 11, 30, 31] <| Ma 0 (Rfm.cells { (getA rs ref) with state := st, stop := now, t := (tallyT s ref) }) 45 qhb6_29 id (take_all (Rfm.len _)) (Rfm.len _) <| GI_final 6 (by kernel_rfl) (by kernel_rfl) <| Kg (rset_spec H r g ts rs ref ({ (getA rs ref) with state := st, stop := now, t := (tallyT s ref) }) _ hR href htr) ?_
 rintro _ w39 ⟨rfl, ⟨H41, hR42, hfr43⟩, hk40⟩
 refine ⟨_, rfl, ?_⟩
 have hsz44 := Keep.size hk40
 replace hb1 := hb1.keep hk40 (fun hs => by have h1 := hgo _ hs; have h2 := hgl _ hs; omega)
 replace hV := hV.keep hk40 (fun q hq hs => (fun q h1 h2 => hHF q (by rw [show q = g from h1]; exact hgH) h2) q hs hq)
 replace hK0 := Keep.fresh hK0 hk40 (by intro i hi hs; first | exact hs | (exfalso; have h1 := hgo i hs; have h2 := hgl i hs; omega) | (have h1 := hgo i hs; have h2 := hgl i hs; show _ ∨ _; omega))
 have own46 : ∀ q, H41 q → 0 ≤ q ∧ q ≠ b1 ∧ q ≠ b6 := fun q hq => by rcases hfr43 q hq with h | h; (have h1 := hHo q h; have h2 := hHlt q h; omega); omega
 have lt45 := Rfr.lt hR42
 have rel47 : ∀ q, H41 q → H q ∨ w.heap.size ≤ q := fun q hq => by rcases hfr43 q hq with h | h; exact hHr q h; exact .inr (by omega)
 have dis48 : ∀ q, H41 q → ¬ F q := fun q h1 h2 => by rcases hfr43 q h1 with h | h; exact hHF q h h2; (have h4 := hFlt q h2; omega)
 refine Oer <| On 4 [2, 3, 10, 34, 35, 36, 37] <| Kg (close_specT F v s ref st now _ hV) ?_
 rintro _ w51 ⟨rfl, ⟨F53, ho54, hfr55⟩, hk52⟩
 refine ⟨_, rfl, ?_⟩
 have hsz56 := Keep.size hk52
 replace hb1 := hb1.keep hk52 (fun hs => by have h1 := hVr _ hs; have h2 := hFlt _ hs; omega)
 replace hK0 := Keep.fresh hK0 hk52 (fun i hi hs => by rcases hFr i hs with h | h; exact .inr <| h; (exfalso; omega))
 replace hR42 := hR42.keep hk52 (fun q hq hs => dis48 q hq hs)
 have own58 : ∀ q, F53 q → q ≠ r ∧ q ≠ r ∧ q ≠ b1 ∧ q ≠ b6 := fun q hq => by rcases hfr55 q hq with h | h; (have h1 := hVr q h; have h2 := hFlt q h; omega); omega
 have lt57 := VotT.lt ho54
 have rel59 : ∀ q, F53 q → F q ∨ w.heap.size ≤ q := fun q hq => by rcases hfr55 q hq with h | h; exact hFr q h; exact .inr (by omega)
 have dis60 : ∀ q, F53 q → ¬ inA A q := fun q h1 h2 => by rcases hfr55 q h1 with h | h; exact (fun q h1 h2 => hHF q (hAo q h2).1 h1) q h h2; (have h4 := hAlt q h2; omega)
 have dis61 : ∀ q, F53 q → ¬ H41 q := fun q h1 h2 => by rcases hfr55 q h1 with h | h; exact dis48 q h2 h; (have h4 := lt45 q h2; omega)
 refine Oer <| Os 3 [(10, pt b1),(41, .agg #[nt 1, nt ref, nt st])] <| OI_set (m := 3) (kd := true) 53 (.tmp 10) (.tmp 41) 0 (.agg #[nt 1, nt ref, nt st]) [nt 1, nt ref, nt st] none (by kernel_rfl) (by kernel_rfl) (by kernel_rfl) hb1 (by kernel_rfl) (by kernel_rfl) (by kernel_rfl) (Nat.le_of_ble_eq_true (by kernel_rfl)) (by simp [Value.oneCell']) ?_
 intro w62 hb1_65 hk63 hz64
 replace hb1_65 : Blk w62 b1 [nt 1, nt ref, nt st] 53 := hb1_65
 have hsz66 := Keep.size hk63
 replace hK0 := Keep.fr hK0 hk63
 replace hR42 := hR42.keep hk63 (fun q hq hs => by have hs : q = b1 := hs; have g0 := own46 q hq; have g1 := lt45 q hq; omega)
 replace ho54 := ho54.keep hk63 (fun q hq hs => by have hs : q = b1 := hs; have g0 := own58 q hq; have g1 := lt57 q hq; omega)
 refine Oe <| V_ret ?_
 exact leave0 (.agg [nt 1, nt ref, nt st].toArray) (.inl rfl) (res_agg1 (m := 3) rfl rfl (by kernel_rfl) hb1_65 rfl) ⟨rfl, ⟨H41, F53, hR42, ho54, rel47, rel59, (fun q h1 h2 => dis61 q h2 h1)⟩, hK0⟩
end Go.Al
