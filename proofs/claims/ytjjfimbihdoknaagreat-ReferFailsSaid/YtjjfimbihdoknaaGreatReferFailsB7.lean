/-
  Put together out of 5 texts: Walks of package refer: Service. New. Walks of the laws of refer: the document's answers. Walks of the laws of refer: a beginning. Walks of package voting: Unvote.
-/
import Derived.Test.YtjjfimbihdoknaaGreatReferFailsB6
set_option maxRecDepth 10000
namespace Go.Al
open Go Go.RowKit Go.Proofs
section
variable {ts : List Trk} {rs r1 : List Rfm} {now iss ref st : Int} {s : VS} {q : SvS}
theorem begR_len (rs : List Rfm) (of : Int) : (begR ts s now rs of).length = rs.length := by unfold begR; rw [setsN_len]
theorem begK_len (rs : List Rfm) : ∀ k, (begK ts s now rs k).length = rs.length
  | 0 => rfl
  | k + 1 => by show (begR ts s now (begK ts s now rs k) _).length = _; rw [begR_len, begK_len rs k]
theorem svcStep_len (i : Int) (x : Rfm) (q : SvS) : (svcStep ts iss now i x q).rs.length = q.rs.length := by
  unfold svcStep
  split
  · rfl
  · split
    · show (q.rs.set _ _).length = _; rw [List.length_set]
    · show (q.rs.set _ _).length = _; rw [List.length_set]
theorem svcStep_at {k : Nat} (x : Rfm) (q : SvS) {j : Nat} (h : k < j) : (svcStep ts iss now (k : Int) x q).rs[j]? = q.rs[j]? := by
  unfold svcStep
  split
  · rfl
  · split
    · show (q.rs.set _ _)[j]? = _; rw [Int.toNat_natCast, List.getElem?_set_ne (by omega)]
    · show (q.rs.set _ _)[j]? = _; rw [Int.toNat_natCast, List.getElem?_set_ne (by omega)]
theorem svcK_at (q : SvS) : ∀ k, (svcK ts iss now r1 q k).rs.length = q.rs.length ∧ ∀ j, k ≤ j → (svcK ts iss now r1 q k).rs[j]? = q.rs[j]?
  | 0 => ⟨rfl, fun _ _ => rfl⟩
  | k + 1 => by
    obtain ⟨h1, h2⟩ := svcK_at q k
    show ((match r1[k]? with | none => svcK ts iss now r1 q k | some x => svcStep ts iss now k x (svcK ts iss now r1 q k)) : SvS).rs.length = _ ∧ ∀ j, k + 1 ≤ j → ((match r1[k]? with | none => svcK ts iss now r1 q k | some x => svcStep ts iss now k x (svcK ts iss now r1 q k)) : SvS).rs[j]? = _
    cases r1[k]? with
    | none => exact ⟨h1, fun j hj => h2 j (by omega)⟩
    | some x => exact ⟨(svcStep_len _ _ _).trans h1, fun j hj => (svcStep_at _ _ (by omega)).trans (h2 j (by omega))⟩
theorem svcK_step {k : Nat} {x : Rfm} (h : r1[k]? = some x) : svcK ts iss now r1 q (k + 1) = svcStep ts iss now (k : Int) x (svcK ts iss now r1 q k) := by
  show (match r1[k]? with | none => _ | some x => _) = _
  rw [h]
theorem step_skip {i : Int} {x : Rfm} (h : ¬ x.state = 1) : svcStep ts iss now i x q = q := by unfold svcStep; rw [if_pos h]
theorem step_on {i : Int} {x : Rfm} (h : x.state = 1) (h2 : decE ts x (tallyT q.s i) iss now = 0) : svcStep ts iss now i x q = { q with rs := q.rs.set i.toNat (decY ts x (tallyT q.s i) iss now) } := by unfold svcStep; rw [if_neg (fun h9 => h9 h), if_pos h2]
theorem step_end {i : Int} {x : Rfm} (h : x.state = 1) (h2 : ¬ decE ts x (tallyT q.s i) iss now = 0) : svcStep ts iss now i x q = ⟨closeS q.s i (decE ts x (tallyT q.s i) iss now) now, q.rs.set i.toNat (endY q.s (decY ts x (tallyT q.s i) iss now) i (decE ts x (tallyT q.s i) iss now) now), q.out ++ [Evt.mk 1 i (decE ts x (tallyT q.s i) iss now)]⟩ := by unfold svcStep; rw [if_neg (fun h9 => h9 h), if_neg h2]
theorem decY_trk (x : Rfm) (y : Tly) : (decY ts x y iss now).track = x.track := by unfold decY; split <;> rfl
theorem endR_set {y : Rfm} {k : Nat} (hk : k < rs.length) : endR s (rs.set ((k : Int)).toNat y) (k : Int) st now = rs.set ((k : Int)).toNat (endY s y (k : Int) st now) := by
  have e : getA (rs.set ((k : Int)).toNat y) (k : Int) = y := by
    unfold getA getR
    rw [List.length_set, if_pos (by omega), List.getElem?_set_self (by omega)]; rfl
  unfold endR
  rw [e, List.set_set]
theorem svc_out_len (q : SvS) : ∀ k, (svcK ts iss now r1 q k).out.length ≤ q.out.length + k
  | 0 => Nat.le_refl _
  | k + 1 => by
    have h := svc_out_len q k
    show ((match r1[k]? with | none => svcK ts iss now r1 q k | some x => svcStep ts iss now k x (svcK ts iss now r1 q k)) : SvS).out.length ≤ _
    cases r1[k]? with
    | none => show (svcK ts iss now r1 q k).out.length ≤ _; omega
    | some x =>
      show (svcStep ts iss now k x (svcK ts iss now r1 q k)).out.length ≤ _
      unfold svcStep
      split
      · omega
      · split
        · show (svcK ts iss now r1 q k).out.length ≤ _; omega
        · show (_ ++ [_]).length ≤ _; rw [List.length_append, List.length_singleton]; omega
end
set_option maxHeartbeats 4000000 in
theorem service_spec (H : Nat → Prop) (r g : Nat) (ts : List Trk) (rs : List Rfm) (F : Nat → Prop) (v : Nat) (s : VS) (G : Nat → Prop) (l : Nat) (xs : List Acc) (cs : List Ci) (now : Int) (w : World) (hR : Rfr H w r g ts rs) (hV : VotT F w v s) (hl : Led G w l xs cs) (hHF : ∀ q, H q → ¬ F q) (hHG : ∀ q, H q → ¬ G q) (hFG : ∀ q, F q → ¬ G q) : Calls Tryz.prog 22 #[pt r, pt l, pt v, nt now] w fun e w' => ∃ A' cap', e = .returned (.slice A' (svcQ ts xs s rs now).out.length cap') ∧ SlT w' 3 Evt.cells A' cap' (svcQ ts xs s rs now).out ∧ (∀ q, inA A' q → w.heap.size ≤ q) ∧ (∃ H' F', Rfr H' w' r g ts (svcQ ts xs s rs now).rs ∧ VotT F' w' v (svcQ ts xs s rs now).s ∧ (∀ q, H' q → H q ∨ w.heap.size ≤ q) ∧ (∀ q, F' q → F q ∨ w.heap.size ≤ q) ∧ (∀ q, H' q → ¬ F' q) ∧ (∀ q, inA A' q → ¬ H' q) ∧ (∀ q, inA A' q → ¬ F' q)) ∧ Keep (fun q => q = g ∨ F q) w w' := by
 have hHlt := Rfr.lt hR
 have hrH := Rfr.at_ hR
 have hgH := Rfr.atg hR
 have hrlt := hHlt _ hrH
 have hglt := hHlt _ hgH
 have hin := Rfr.inn hR
 obtain ⟨A, cap, hr, hA, hAo, hrg⟩ := Rfr.parts hR
 have hAlt := SlT.lt hA
 have hAr : ∀ q, inA A q → q ≠ r ∧ q ≠ g ∧ q < w.heap.size := fun q hq => ⟨(hAo q hq).2.1, (hAo q hq).2.2, hAlt q hq⟩
 have hgo : ∀ q, only g q → q ≠ r ∧ q = g := fun q hq => ⟨fun e => hrg (e.symm.trans hq), hq⟩
 have hgl : ∀ q, only g q → q < w.heap.size := fun q hq => by rw [show q = g from hq]; exact hglt
 have hHo : ∀ q, H q → 0 ≤ q := fun q _ => Nat.zero_le q
 have htl := hin.tl
 have hrl := hin.rl
 have hFlt := VotT.lt hV
 have hvlt := hFlt _ (VotT.at_ hV)
 have hVr : ∀ q, F q → q ≠ r := fun q hq e => hHF r hrH (e ▸ hq)
 have hGlt := Led.lt hl
 have hllt := hGlt _ (Led.at_ hl)
 have hlr : ∀ q, G q → q ≠ r := fun q hq e => hHG r hrH (e ▸ hq)
 have hinv := Led.inv hl
 have hHr : ∀ q, H q → H q ∨ w.heap.size ≤ q := fun _ h => .inl h
 have hFr : ∀ q, F q → F q ∨ w.heap.size ≤ q := fun _ h => .inl h
 have hK0 : Keep (fun q => q = g ∨ F q) w w := Keep.refl _ _
 have hzhK0 := Keep.size hK0
 refine enterM Tryz.func22 rfl [pt r, pt l, pt v, nt now] 77 rfl rfl rfl ?_
 refine Vp [(0, pt r), (1, pt l), (2, pt v), (3, nt now)] <| Vr <| Bx 34 [pt r] ?_
 intro b1 w1 e1 hb1 k1 z1
 have hsz2 := Keep.size k1
 replace hR := hR.keep k1 nk
 replace hV := hV.keep k1 nk
 replace hl := hl.keep k1 nk
 replace hK0 := hK0.tn k1
 have hb1lt := hb1.lt
 refine Bx 32 [pt l] ?_
 intro b3 w3 e3 hb3 k3 z3
 have hsz4 := Keep.size k3
 replace hR := hR.keep k3 nk
 replace hV := hV.keep k3 nk
 replace hl := hl.keep k3 nk
 replace hK0 := hK0.tn k3
 have hb3lt := hb3.lt
 refine Bx 33 [pt v] ?_
 intro b5 w5 e5 hb5 k5 z5
 have hsz6 := Keep.size k5
 replace hR := hR.keep k5 nk
 replace hV := hV.keep k5 nk
 replace hl := hl.keep k5 nk
 replace hK0 := hK0.tn k5
 have hb5lt := hb5.lt
 refine Bx 3 [nt now] ?_
 intro b7 w7 e7 hb7 k7 z7
 have hsz8 := Keep.size k7
 replace hr := hr.k0 (((k1.tr k3).tr k5).tr k7)
 replace hb1 := hb1.k0 ((k3.tr k5).tr k7)
 replace hb3 := hb3.k0 (k5.tr k7)
 replace hb5 := hb5.k0 k7
 replace hA := hA.keep0 (((k1.tr k3).tr k5).tr k7)
 replace hR := hR.keep k7 nk
 replace hV := hV.keep k7 nk
 replace hl := hl.keep k7 nk
 replace hK0 := hK0.tn k7
 have hb7lt := hb7.lt
 refine On 5 [4, 5, 6, 7, 8] <| Oe <| V_seq <| Vr <| Lr 0 (pt r) hb1 <| On 3 [4, 5, 6, 7, 8, 17] <| Lr 0 (pt l) hb3 <| On 7 [4, 5, 6, 7, 8, 21] <| Lr 0 (pt v) hb5 <| Oen [4, 5, 6, 7, 8, 24] <| Vf <| Vsk <| V_seq <| Vr <| Lr 0 (pt r) hb1 <| On 3 [4, 5, 6, 7, 8, 27] <| Lr 0 (.slice A ts.length cap) hr <| Oen [4, 5, 6, 7, 8, 29, 30] <| V_block <| Vp [(4, pt b1), (5, pt b3), (6, pt b5), (7, pt b7), (8, .slice none 0 0), (29, nt (ts.length : Int)), (30, nt 0)] <| V_loop (fun k wI e => ∃ i : Nat, ∃ Hi : Nat → Prop, (k + i = ts.length) ∧ (Rfr Hi wI r g ts (begK ts s now rs i)) ∧ (∀ q, Hi q → 0 ≤ q ∧ q ≠ b1 ∧ q ≠ b3 ∧ q ≠ b5 ∧ q ≠ b7) ∧ (∀ q, Hi q → H q ∨ w.heap.size ≤ q) ∧ (∀ q, Hi q → ¬ F q) ∧ (∀ q, Hi q → ¬ G q) ∧ Keep (only g) w7 wI ∧ e = [(4, pt b1), (5, pt b3), (6, pt b5), (7, pt b7), (8, .slice none 0 0), (29, nt (ts.length : Int)), (30, nt (i : Int))]) ts.length ⟨0, H, by omega, hR, (fun q hq => by have h1 := hHo q hq; have h2 := hHlt q hq; omega), hHr, hHF, hHG, Keep.refl _ _, rfl⟩ ?_
 rintro k10 w9 _ ⟨i, Hi, hki, hRi, hHio, hHifr, hHiF, hHiG, hk11, rfl⟩
 have hsz12 := Keep.size hk11
 replace hr := hr.keep hk11 (fun hs => by have h1 := hgo _ hs; have h2 := hgl _ hs; omega)
 replace hb1 := hb1.keep hk11 (fun hs => by have h1 := hgo _ hs; have h2 := hgl _ hs; omega)
 replace hb3 := hb3.keep hk11 (fun hs => by have h1 := hgo _ hs; have h2 := hgl _ hs; omega)
 replace hb5 := hb5.keep hk11 (fun hs => by have h1 := hgo _ hs; have h2 := hgl _ hs; omega)
 replace hb7 := hb7.keep hk11 (fun hs => by have h1 := hgo _ hs; have h2 := hgl _ hs; omega)
 replace hA := hA.keep hk11 (fun q hq hs => (fun q h1 h2 => (hAo q h2).2.2 h1) q hs hq)
 replace hV := hV.keep hk11 (fun q hq hs => (fun q h1 h2 => hHF q (by rw [show q = g from h1]; exact hgH) h2) q hs hq)
 replace hl := hl.keep hk11 (fun q hq hs => (fun q h1 h2 => hHG q (by rw [show q = g from h1]; exact hgH) h2) q hs hq)
 replace hK0 := Keep.fresh hK0 hk11 (by intro i hi hs; first | exact hs | (exfalso; have h1 := hgo i hs; have h2 := hgl i hs; omega) | (have h1 := hgo i hs; have h2 := hgl i hs; show _ ∨ _; omega))
 have hzhk11 := Keep.size hk11
 have lt13 := Rfr.lt hRi
 refine Vn [4, 5, 6, 7, 8, 29, 30, 31] <| V_seq <| Vi ((i : Int) < (ts.length : Int)) (fun hc14 => ?_) (fun hc14 => ?_)
 ·
  have hki2 : i < ts.length := by omega
  refine Vsk <| V_seq <| V_block <| Vr <| On 2 [4, 5, 6, 7, 8, 9, 29, 30] <| Oe <| V_region <| Lr 0 (pt r) hb1 <| Lr 0 (pt v) hb5 <| On 3 [4, 5, 6, 7, 8, 29, 30, 33, 34, 35] <| Lr 0 (nt now) hb7 <| Kg (begins_spec Hi r g ts (begK ts s now rs i) F v s i now _ hRi hV hHiF hki2) ?_
  rintro _ w17 ⟨rfl, ⟨H19, ho20, hfr21⟩, hk18⟩
  refine ⟨_, rfl, ?_⟩
  have hsz22 := Keep.size hk18
  replace hk11 := Keep.fresh hk11 hk18 (by intro i hi hs; first | exact hs | (exfalso; have h1 := hgo i hs; have h2 := hgl i hs; omega) | (have h1 := hgo i hs; have h2 := hgl i hs; show _ ∨ _; omega))
  have own24 : ∀ q, H19 q → 0 ≤ q ∧ q ≠ b1 ∧ q ≠ b3 ∧ q ≠ b5 ∧ q ≠ b7 := fun q hq => by rcases hfr21 q hq with h | h; (have h1 := hHio q h; have h2 := lt13 q h; omega); omega
  have lt23 := Rfr.lt ho20
  have rel25 : ∀ q, H19 q → H q ∨ w.heap.size ≤ q := fun q hq => by rcases hfr21 q hq with h | h; exact hHifr q h; exact .inr (by omega)
  have dis26 : ∀ q, H19 q → ¬ F q := fun q h1 h2 => by rcases hfr21 q h1 with h | h; exact hHiF q h h2; (have h4 := hFlt q h2; omega)
  have dis27 : ∀ q, H19 q → ¬ G q := fun q h1 h2 => by rcases hfr21 q h1 with h | h; exact hHiG q h h2; (have h4 := hGlt q h2; omega)
  refine OI_end rfl <| X_block <| X_then <| V_region ?_
  have hw28 : IntKind.i64.wrap ((i : Int) + 1) = ((i + 1 : Nat) : Int) := (wrap64_id (by omega) (by omega)).trans (by omega)
  refine On 1 [4, 5, 6, 7, 8, 29, 38] <| Oq (u := nt (IntKind.i64.wrap ((i : Int) + 1))) (v := nt ((i + 1 : Nat) : Int)) 38 (by rw [hw28]) <| Os 2 [(4, pt b1), (5, pt b3), (6, pt b5), (7, pt b7), (8, .slice none 0 0), (29, nt (ts.length : Int)), (30, nt ((i + 1 : Nat) : Int))] <| OI_end rfl ?_
  exact V_again (k10 - 1) (by omega) [(4, pt b1), (5, pt b3), (6, pt b5), (7, pt b7), (8, .slice none 0 0), (29, nt (ts.length : Int)), (30, nt ((i + 1 : Nat) : Int))] rfl ⟨i + 1, H19, by omega, ho20, (fun q hq => by have h1 := own24 q hq; have h2 := lt23 q hq; omega), rel25, dis26, dis27, hk11, rfl⟩
 refine V_exit <| X_exit_then <| X_exit_then <| X_exit_here <| X_then <| Vr <| Al 50 (.slice none 0 0) [.slice none 0 0] ?_
 intro b29 w29 e29 hb29 k29 z29
 have hsz30 := Keep.size k29
 replace hr := hr.k0 k29
 replace hb1 := hb1.k0 k29
 replace hV := hV.keep k29 nk
 replace hl := hl.keep k29 nk
 replace hK0 := hK0.tn k29
 replace hRi := hRi.keep k29 nk
 have hb29lt := hb29.lt
 refine Oe <| V_seq <| Vr <| Lr 0 (pt r) hb1 <| Ok (kl 48 #[(.tmp 39)] #[34]) 48 #[pt r] (some 40) (all_at r g _ _ _ _ hr) ?_
 rintro _ w33 ⟨bg35, bs36, bn37, rfl, hbg35, hbs36, hbn37, hk34, hgebg35, hgebs36, hgebn37⟩
 refine ⟨_, rfl, ?_⟩
 have hsz38 := Keep.size hk34
 replace hr := hr.k0 hk34
 replace hb1 := hb1.k0 hk34
 replace hb3 := hb3.k0 (k29.tr hk34)
 replace hb5 := hb5.k0 (k29.tr hk34)
 replace hb7 := hb7.k0 (k29.tr hk34)
 replace hb29 := hb29.k0 hk34
 replace hA := hA.keep0 (k29.tr hk34)
 replace hV := hV.keep hk34 nk
 replace hl := hl.keep hk34 nk
 replace hK0 := hK0.tn hk34
 replace hRi := hRi.keep hk34 nk
 have hbg35lt := hbg35.lt
 have hbs36lt := hbs36.lt
 have hbn37lt := hbn37.lt
 refine Oe <| V_block ?_
 have hie : i = ts.length := by omega
 obtain ⟨r1, hr1⟩ : ∃ q, q = begK ts s now rs ts.length := ⟨_, rfl⟩
 rw [hie, ← hr1] at hRi
 have hr1l : r1.length = rs.length := by rw [hr1, begK_len]
 obtain ⟨D, hD9, hDH⟩ := Rfr.grqF hRi
 obtain ⟨_, _, _, _, A2, cap2, hat2, hAD2⟩ := hD9
 have hA2 := hat2.sl
 have owA2 : ∀ q, inA A2 q → q ≠ g ∧ q < w33.heap.size ∧ q ≠ b1 ∧ q ≠ b3 ∧ q ≠ b5 ∧ q ≠ b7 ∧ q ≠ b29 ∧ q ≠ bg35 ∧ q ≠ bs36 ∧ q ≠ bn37 := fun q hq => by have h1 := hHio q (hDH q (hAD2 q hq)); have h2 := lt13 q (hDH q (hAD2 q hq)); exact ⟨fun e => hat2.off (e ▸ hq), by omega⟩
 refine Vp [(4, pt b1), (5, pt b3), (6, pt b5), (7, pt b7), (10, pt b29), (40, .func (.func 183) #[] #[pt bg35, pt bs36, pt bn37])] ?_
 have hN0 : w.heap.size ≤ w33.heap.size := Keep.size hK0
 refine V_range2 (gf := 183) (caps := #[pt bg35, pt bs36, pt bn37]) (m := r1.length) (by kernel_rfl) (by kernel_rfl) (by kernel_rfl) (alongQ bg35 bs36 bn37 g cap2 A2 r1 (by omega)) (⟨hbg35, hat2, ⟨hbs36, hbn37, hA2⟩⟩) (fun W W' h k => ⟨h.1.quiet k, h.2.1.quiet k, h.2.2.quiet k⟩) (GQ.enc2_size _) (fun M1 k W => ∃ Ak : Option Addr, ∃ capk : Nat, ∃ Hk : Nat → Prop, ∃ Fk : Nat → Prop, (Blk W r [.slice A ts.length cap, pt g] 97) ∧ (Blk W b1 [pt r] 34) ∧ (Blk W b3 [pt l] 32) ∧ (Blk W b5 [pt v] 33) ∧ (Blk W b7 [nt now] 3) ∧ (Blk W bs36 [nt 0] 3) ∧ (Blk W bn37 [nt 0] 3) ∧ (SlT W 18 Trk.cells A cap ts) ∧ (SlT W 47 GQ.Ci.cells A2 cap2 (cellsQ 0 r1)) ∧ (Led G W l xs cs) ∧ (Keep (fun q => q = g ∨ F q) w W) ∧ (Blk W b29 [.slice Ak ((svcK ts (tot xs) now r1 ⟨s, r1, []⟩ k).out.length) capk] 50) ∧ (SlT W 3 Evt.cells Ak capk ((svcK ts (tot xs) now r1 ⟨s, r1, []⟩ k).out)) ∧ (Rfr Hk W r g ts (svcK ts (tot xs) now r1 ⟨s, r1, []⟩ k).rs) ∧ (VotT Fk W v (svcK ts (tot xs) now r1 ⟨s, r1, []⟩ k).s) ∧ (∀ q, inA Ak q → M1 ≤ q) ∧ (∀ q, Hk q → (q < w33.heap.size ∨ M1 ≤ q) ∧ q ≠ b1 ∧ q ≠ b3 ∧ q ≠ b5 ∧ q ≠ b7 ∧ q ≠ b29 ∧ q ≠ bs36 ∧ q ≠ bn37) ∧ (∀ q, Hk q → H q ∨ w.heap.size ≤ q) ∧ (∀ q, Fk q → (q < w33.heap.size ∨ M1 ≤ q) ∧ q ≠ r ∧ q ≠ b1 ∧ q ≠ b3 ∧ q ≠ b5 ∧ q ≠ b7 ∧ q ≠ b29 ∧ q ≠ bs36 ∧ q ≠ bn37) ∧ (∀ q, Fk q → F q ∨ w.heap.size ≤ q) ∧ (∀ q, Hk q → ¬ Fk q) ∧ (∀ q, Hk q → ¬ G q) ∧ (∀ q, Fk q → ¬ G q) ∧ (∀ q, Fk q → ¬ inA A2 q) ∧ (∀ q, Fk q → ¬ inA A q) ∧ (∀ q, inA Ak q → ¬ Hk q) ∧ (∀ q, inA Ak q → ¬ Fk q)) (fun M1 c k W => False) (fun M1 k W W' h hk => by obtain ⟨Ak, capk, Hk, Fk, jr, jb1, jb3, jb5, jb7, jbs36, jbn37, jA, jA2, jhl, jhK0, jb29, jAk, jR, jV, ownk, hHko, hHkr, hFko, hFkr, dHF, dHG, dFG, dFA2, dFA, dAkH, dAkF⟩ := h; exact ⟨Ak, capk, Hk, Fk, jr.quiet hk, jb1.quiet hk, jb3.quiet hk, jb5.quiet hk, jb7.quiet hk, jbs36.quiet hk, jbn37.quiet hk, jA.quiet hk, jA2.quiet hk, Led.quiet jhl hk, jhK0.quiet hk (by omega), jb29.quiet hk, jAk.quiet hk, Rfr.quiet jR hk, VotT.quiet jV hk, ownk, hHko, hHkr, hFko, hFkr, dHF, dHG, dFG, dFA2, dFA, dAkH, dAkF⟩) (fun _ _ _ _ _ h _ => h.elim) (fun M1 hM1 => ⟨none, 0, Hi, F, hr, hb1, hb3, hb5, hb7, hbs36, hbn37, hA, hA2, hl, hK0, hb29, SlT.nil _ _ _, hRi, hV, fun q h => (inA_none h).elim, (fun q hq => by have h1 := hHio q hq; have h2 := lt13 q hq; omega), hHifr, (fun q hq => by have h1 := hVr q hq; have h2 := hFlt q hq; omega), hFr, hHiF, hHiG, hFG, (fun q h1 h2 => hHiF q (hDH q (hAD2 q h2)) h1), (fun q h1 h2 => hHF q (hAo q h2).1 h1), fun q h => (inA_none h).elim, fun q h => (inA_none h).elim⟩) (fun M1 k W h => by obtain ⟨Ak, capk, Hk, Fk, jr, jb1, jb3, jb5, jb7, jbs36, jbn37, jA, jA2, jhl, jhK0, jb29, jAk, jR, jV, ownk, hHko, hHkr, hFko, hFkr, dHF, dHG, dFG, dFA2, dFA, dAkH, dAkF⟩ := h; exact ⟨jbs36, jbn37, jA2⟩) ?_ ?_ (fun _ _ _ _ _ _ _ _ h _ => h.elim)
 ·
  intro lp D M1 k W hD hl hM hMW hkm ⟨Ak, capk, Hk, Fk, jr, jb1, jb3, jb5, jb7, jbs36, jbn37, jA, jA2, jhl, jhK0, jb29, jAk, jR, jV, ownk, hHko, hHkr, hFko, hFkr, dHF, dHG, dFG, dFA2, dFA, dAkH, dAkF⟩ ⟨rr, hrr⟩ hDD
  have hzjhK0 := Keep.size jhK0
  have hrlt := jr.lt
  have hb1lt := jb1.lt
  have hb3lt := jb3.lt
  have hb5lt := jb5.lt
  have hb7lt := jb7.lt
  have hb29lt := jb29.lt
  have hbs36lt := jbs36.lt
  have hbn37lt := jbn37.lt
  have ltjA := SlT.lt jA
  have ltjA2 := SlT.lt jA2
  have ltjAk := SlT.lt jAk
  have lt39 := Rfr.lt jR
  have lt40 := VotT.lt jV
  obtain ⟨x, hx⟩ : ∃ x, r1[k]? = some x := ⟨_, List.getElem?_eq_getElem (by omega)⟩
  rw [GQ.enc2_at (zipQ_at0 hx)]
  obtain ⟨hql, hqa⟩ := svcK_at (ts := ts) (iss := (tot xs)) (now := now) (r1 := r1) ⟨s, r1, []⟩ k
  have hqx := (hqa k (Nat.le_refl _)).trans hx
  have hxt := (Rfr.inn jR).rtk x (List.mem_of_getElem? hqx)
  have hstp := svcK_step (ts := ts) (iss := (tot xs)) (now := now) (q := ⟨s, r1, []⟩) hx
  replace hql : (svcK ts (tot xs) now r1 ⟨s, r1, []⟩ k).rs.length = r1.length := hql
  have hol := svc_out_len (ts := ts) (iss := (tot xs)) (now := now) (r1 := r1) ⟨s, r1, []⟩ k
  replace hol : (svcK ts (tot xs) now r1 ⟨s, r1, []⟩ k).out.length ≤ 0 + k := hol
  have hkl : k < r1.length := hkm
  refine Vp [(4, pt b1), (5, pt b3), (6, pt b5), (7, pt b7), (10, pt b29), (41, nt (k : Int)), (42, .agg (Rfm.cells x).toArray)] ?_
  have hfen : Keep (fen w33.heap.size M1) W W := Keep.refl _ _
  have hzhfen := Keep.size hfen
  refine Vs [(4, pt b1), (5, pt b3), (6, pt b5), (7, pt b7), (10, pt b29), (11, nt (k : Int)), (42, .agg (Rfm.cells x).toArray)] <| V_region <| OI_alloc 57 (.agg (Rfm.cells Rfm.zero).toArray) (Rfm.cells Rfm.zero) (some 12) (by kernel_rfl) (by kernel_rfl) (by kernel_rfl) ?_
  intro b41 w41 e41 hb41 k41 z41
  have hsz42 := Keep.size k41
  replace jr := jr.k0 k41
  replace jb1 := jb1.k0 k41
  replace jb3 := jb3.k0 k41
  replace jb5 := jb5.k0 k41
  replace jb7 := jb7.k0 k41
  replace jb29 := jb29.k0 k41
  replace jbs36 := jbs36.k0 k41
  replace jbn37 := jbn37.k0 k41
  replace jA := jA.keep0 k41
  replace jA2 := jA2.keep0 k41
  replace jAk := jAk.keep0 k41
  replace jhl := jhl.keep k41 nk
  replace jhK0 := jhK0.tn k41
  replace jR := jR.keep k41 nk
  replace jV := jV.keep k41 nk
  replace hfen := hfen.tn k41
  have hb41lt := hb41.lt
  refine Sg 0 (Rfm.cells x) hb41 (Rfm.len _) (Rfm.one _) ?_
  intro w43 hb41_46 hk44 hz45
  replace hb41_46 : Blk w43 b41 (Rfm.cells x) 57 := (Blk.eqL (Rfm.over _ _) hb41_46)
  have hsz47 := Keep.size hk44
  replace jr := jr.k1 hk44
  replace jb1 := jb1.k1 hk44
  replace jb3 := jb3.k1 hk44
  replace jb5 := jb5.k1 hk44
  replace jb7 := jb7.k1 hk44
  replace jb29 := jb29.k1 hk44
  replace jbs36 := jbs36.k1 hk44
  replace jbn37 := jbn37.k1 hk44
  replace jA := jA.keep hk44 (fun q hq hs => by have hs : q = b41 := hs; have g0 := hAr q hq; have g1 := ltjA q hq; omega)
  replace jA2 := jA2.keep hk44 (fun q hq hs => by have hs : q = b41 := hs; have g0 := owA2 q hq; have g1 := ltjA2 q hq; omega)
  replace jAk := jAk.keep hk44 (fun q hq hs => by have hs : q = b41 := hs; have g0 := ownk q hq; have g1 := ltjAk q hq; omega)
  replace jhl := jhl.keep hk44 (fun q hq hs => by have hs : q = b41 := hs; have g0 := hlr q hq; have g1 := hGlt q hq; omega)
  replace jhK0 := Keep.fr jhK0 hk44
  replace jR := jR.keep hk44 (fun q hq hs => by have hs : q = b41 := hs; have g0 := hHko q hq; have g1 := lt39 q hq; omega)
  replace jV := jV.keep hk44 (fun q hq hs => by have hs : q = b41 := hs; have g0 := hFko q hq; have g1 := lt40 q hq; omega)
  replace hfen := Keep.fresh hfen hk44 (by intro i hi hs; have hs2 : i = b41 := hs; show _ ∨ _; omega)
  refine OI_end rfl <| X_begin2 hfen ?_
  intro W2 hk2 ⟨r2, hr2⟩ hD2
  have hsz48 := Keep.size hk2
  replace jr := Blk.quiet jr hk2
  replace jb1 := Blk.quiet jb1 hk2
  replace jb3 := Blk.quiet jb3 hk2
  replace jb5 := Blk.quiet jb5 hk2
  replace jb7 := Blk.quiet jb7 hk2
  replace jb29 := Blk.quiet jb29 hk2
  replace jbs36 := Blk.quiet jbs36 hk2
  replace jbn37 := Blk.quiet jbn37 hk2
  replace hb41_46 := Blk.quiet hb41_46 hk2
  replace jA := jA.quiet hk2
  replace jA2 := jA2.quiet hk2
  replace jAk := jAk.quiet hk2
  replace jhl := jhl.quiet hk2
  replace jhK0 := Keep.quiet jhK0 hk2 (by omega)
  replace jR := jR.quiet hk2
  replace jV := jV.quiet hk2
  have hzhk2 := Keep.size hk2
  have hfenb : Keep (fen w33.heap.size M1) W2 W2 := Keep.refl _ _
  have hzhfenb := Keep.size hfenb
  refine V_block <| V_seq <| Vr <| On 1 [4, 5, 6, 7, 10, 11, 12, 43] <| Lr 0 (nt x.state) hb41_46 <| Ose [(4, pt b1), (5, pt b3), (6, pt b5), (7, pt b7), (10, pt b29), (11, nt (k : Int)), (12, pt b41), (45, .bool (!(decide (x.state = 1))))] <| V_not (x.state = 1) (by kernel_rfl) (fun hc49 => ?_) (fun hc49 => ?_)
  ·
   refine V_exit <| X_exit_then <| X_exit_here ?_
   have hq9 := hstp.trans (step_skip hc49)
   exact fun a _ => ⟨hfenb, Ak, capk, Hk, Fk, jr, jb1, jb3, jb5, jb7, jbs36, jbn37, jA, jA2, jhl, jhK0, by rw [hq9]; exact jb29, by rw [hq9]; exact jAk, by rw [hq9]; exact jR, by rw [hq9]; exact jV, ownk, (fun q hq => by have h1 := hHko q hq; have h2 := lt39 q hq; omega), hHkr, (fun q hq => by have h1 := hFko q hq; have h2 := lt40 q hq; omega), hFkr, dHF, dHG, dFG, dFA2, dFA, dAkH, dAkF⟩
  refine Vsk <| V_seqJ (fun wI e => ∃ b13 : Nat, (Blk wI b13 (Rfm.cells (decY ts x (tallyT ((svcK ts (tot xs) now r1 ⟨s, r1, []⟩ k).s) (k : Int)) (tot xs) now)) 57) ∧ (W2.heap.size ≤ b13) ∧ Keep none_ W2 wI ∧ e = [(4, pt b1), (6, pt b5), (7, pt b7), (10, pt b29), (11, nt (k : Int)), (13, pt b13), (14, nt (decE ts x (tallyT ((svcK ts (tot xs) now r1 ⟨s, r1, []⟩ k).s) (k : Int)) (tot xs) now))]) ?_ ?_
  ·
   have hk50 : Keep none_ W2 W2 := Keep.refl _ _
   refine V_draws (acts [4, 6, 8, 12, 13]) none_ [[2, 3, 4, 5, 6, 0, 1, 7, 8, 12, 9, 10, 13, 11, 14], [2, 3, 4, 5, 6, 12, 0, 1, 7, 8, 9, 10, 13, 11, 14], [2, 3, 4, 12, 5, 6, 0, 1, 7, 8, 9, 10, 13, 11, 14], [12, 2, 3, 4, 5, 6, 0, 1, 7, 8, 9, 10, 13, 11, 14]] (by kernel_rfl) (by repeat first | exact (by first | exact sure_postM | exact sure_rQ2 | exact sure_no) | refine sure_then ?_ | refine sure_block ?_ | refine sure_join ?_) (by kernel_rfl) ?_
   intro w52 hk51 he53 L hL54
   have hsz55 := Keep.size hk51
   replace jb1 := jb1.k0 hk51
   replace jb3 := jb3.k0 hk51
   replace jb5 := jb5.k0 hk51
   replace jb7 := jb7.k0 hk51
   replace hb41_46 := hb41_46.k0 hk51
   replace jhl := jhl.keep hk51 nk
   replace jR := jR.keep hk51 nk
   replace jV := jV.keep hk51 nk
   replace hk50 := hk50.tn hk51
   have qjb1 := jb1
   have qjb3 := jb3
   have qjb5 := jb5
   have qjb7 := jb7
   have qhb41_46 := hb41_46
   have K56 : Keep none_ w52 w52 := Keep.refl _ _
   simp only [List.mem_cons, List.not_mem_nil, or_false] at hL54
   rcases hL54 with rfl | rfl | rfl | rfl
   ·
    refine Mr 0 (pt v) qjb5 <| Gn [4, 5, 6, 0, 1, 7, 8, 12, 9, 10, 13, 11, 14] [4, 5, 6, 7, 10, 11, 12, 49, 50] <| Hg (tally_spec Fk v ((svcK ts (tot xs) now r1 ⟨s, r1, []⟩ k).s) (k : Int) _ (jV).1) ?_
    rintro _ w59 ⟨rfl, hk60⟩
    have K61 := K56.tr (Keep.ofNone hk60)
    refine ⟨_, rfl, K61, ?_⟩
    have hzK61 := Keep.size K61
    have hsz62 := Keep.size hk60
    replace jhl := jhl.keep hk60 nk
    replace jR := jR.keep hk60 nk
    replace hk50 := hk50.tn hk60
    refine Mr 0 (pt l) qjb3 <| Hg (issued_spec G l xs cs _ jhl) ?_
    rintro _ w65 ⟨rfl, hk66⟩
    have K67 := K61.tr (Keep.ofNone hk66)
    refine ⟨_, rfl, K67, ?_⟩
    have hzK67 := Keep.size K67
    have hsz68 := Keep.size hk66
    replace jR := jR.keep hk66 nk
    replace hk50 := hk50.tn hk66
    refine Mr 0 (pt r) qjb1 <| Ma 0 (Rfm.cells x) 45 qhb41_46 id (take_all (Rfm.len _)) (Rfm.len _) <| Mr 0 (nt now) qjb7 <| Hg (decides_spec Hk r g ts (svcK ts (tot xs) now r1 ⟨s, r1, []⟩ k).rs x (tallyT ((svcK ts (tot xs) now r1 ⟨s, r1, []⟩ k).s) (k : Int)) (tot xs) now _ jR hxt) ?_
    rintro _ w69 ⟨rfl, hk70⟩
    have K71 := K67.tr (Keep.ofNone hk70)
    refine ⟨_, rfl, K71, ?_⟩
    have hzK71 := Keep.size K71
    have hsz72 := Keep.size hk70
    replace hk50 := hk50.tn hk70
    refine GI_alloc 57 (.agg (Rfm.cells Rfm.zero).toArray) (Rfm.cells Rfm.zero) (some 13) (by kernel_rfl) (by kernel_rfl) K71 (by kernel_rfl) (by kernel_rfl) ?_
    intro b73 w73 e73 hb73 k73 z73 K74
    have hsz75 := Keep.size k73
    replace hk50 := hk50.tn k73
    have hb73lt := hb73.lt
    refine Gn [13, 11, 14] [4, 6, 7, 10, 11, 13, 46, 56] <| GI_set (m := 45) (kd := true) 57 (.tmp 13) (.tmp 56) 0 (.agg (Rfm.cells (decY ts x (tallyT ((svcK ts (tot xs) now r1 ⟨s, r1, []⟩ k).s) (k : Int)) (tot xs) now)).toArray) (Rfm.cells (decY ts x (tallyT ((svcK ts (tot xs) now r1 ⟨s, r1, []⟩ k).s) (k : Int)) (tot xs) now)) none (by kernel_rfl) (by kernel_rfl) (by kernel_rfl) (by kernel_rfl) hb73 (by kernel_rfl) rfl (Rfm.len _) (Nat.le_of_ble_eq_true (by kernel_rfl)) (Rfm.one _) K74 (fun hh => absurd hh (by omega)) ?_
    intro w76 hb73_79 hk77 hz78 K80
    replace hb73_79 : Blk w76 b73 (Rfm.cells (decY ts x (tallyT ((svcK ts (tot xs) now r1 ⟨s, r1, []⟩ k).s) (k : Int)) (tot xs) now)) 57 := (Blk.eqL (Rfm.over _ _) hb73_79)
    have hsz81 := Keep.size hk77
    replace hk50 := Keep.fr hk50 hk77
    refine Gs [] [(4, pt b1), (6, pt b5), (7, pt b7), (10, pt b29), (11, nt (k : Int)), (13, pt b73), (14, nt (decE ts x (tallyT ((svcK ts (tot xs) now r1 ⟨s, r1, []⟩ k).s) (k : Int)) (tot xs) now))] <| GI_end ?_
    exact X_join [(4, pt b1), (6, pt b5), (7, pt b7), (10, pt b29), (11, nt (k : Int)), (13, pt b73), (14, nt (decE ts x (tallyT ((svcK ts (tot xs) now r1 ⟨s, r1, []⟩ k).s) (k : Int)) (tot xs) now))] rfl ⟨b73, hb73_79, by omega, hk50, rfl⟩
   ·
    refine Mr 0 (pt v) qjb5 <| Gn [4, 5, 6, 12, 0, 1, 7, 8, 9, 10, 13, 11, 14] [4, 5, 6, 7, 10, 11, 12, 49, 50] <| Hg (tally_spec Fk v ((svcK ts (tot xs) now r1 ⟨s, r1, []⟩ k).s) (k : Int) _ (jV).1) ?_
    rintro _ w84 ⟨rfl, hk85⟩
    have K86 := K56.tr (Keep.ofNone hk85)
    refine ⟨_, rfl, K86, ?_⟩
    have hzK86 := Keep.size K86
    have hsz87 := Keep.size hk85
    replace jhl := jhl.keep hk85 nk
    replace jR := jR.keep hk85 nk
    replace hk50 := hk50.tn hk85
    refine Mr 0 (pt l) qjb3 <| Hg (issued_spec G l xs cs _ jhl) ?_
    rintro _ w90 ⟨rfl, hk91⟩
    have K92 := K86.tr (Keep.ofNone hk91)
    refine ⟨_, rfl, K92, ?_⟩
    have hzK92 := Keep.size K92
    have hsz93 := Keep.size hk91
    replace jR := jR.keep hk91 nk
    replace hk50 := hk50.tn hk91
    refine GI_alloc 57 (.agg (Rfm.cells Rfm.zero).toArray) (Rfm.cells Rfm.zero) (some 13) (by kernel_rfl) (by kernel_rfl) K92 (by kernel_rfl) (by kernel_rfl) ?_
    intro b94 w94 e94 hb94 k94 z94 K95
    have hsz96 := Keep.size k94
    replace jR := jR.keep k94 nk
    replace hk50 := hk50.tn k94
    have hb94lt := hb94.lt
    refine Mr 0 (pt r) qjb1 <| Ma 0 (Rfm.cells x) 45 qhb41_46 id (take_all (Rfm.len _)) (Rfm.len _) <| Mr 0 (nt now) qjb7 <| Hg (decides_spec Hk r g ts (svcK ts (tot xs) now r1 ⟨s, r1, []⟩ k).rs x (tallyT ((svcK ts (tot xs) now r1 ⟨s, r1, []⟩ k).s) (k : Int)) (tot xs) now _ jR hxt) ?_
    rintro _ w97 ⟨rfl, hk98⟩
    have K99 := K95.tr (Keep.ofNone hk98)
    refine ⟨_, rfl, K99, ?_⟩
    have hzK99 := Keep.size K99
    have hsz100 := Keep.size hk98
    replace hb94 := hb94.k0 hk98
    replace hk50 := hk50.tn hk98
    refine Gn [13, 11, 14] [4, 6, 7, 10, 11, 13, 46, 56] <| GI_set (m := 45) (kd := true) 57 (.tmp 13) (.tmp 56) 0 (.agg (Rfm.cells (decY ts x (tallyT ((svcK ts (tot xs) now r1 ⟨s, r1, []⟩ k).s) (k : Int)) (tot xs) now)).toArray) (Rfm.cells (decY ts x (tallyT ((svcK ts (tot xs) now r1 ⟨s, r1, []⟩ k).s) (k : Int)) (tot xs) now)) none (by kernel_rfl) (by kernel_rfl) (by kernel_rfl) (by kernel_rfl) hb94 (by kernel_rfl) rfl (Rfm.len _) (Nat.le_of_ble_eq_true (by kernel_rfl)) (Rfm.one _) K99 (fun hh => absurd hh (by omega)) ?_
    intro w101 hb94_104 hk102 hz103 K105
    replace hb94_104 : Blk w101 b94 (Rfm.cells (decY ts x (tallyT ((svcK ts (tot xs) now r1 ⟨s, r1, []⟩ k).s) (k : Int)) (tot xs) now)) 57 := (Blk.eqL (Rfm.over _ _) hb94_104)
    have hsz106 := Keep.size hk102
    replace hk50 := Keep.fr hk50 hk102
    refine Gs [] [(4, pt b1), (6, pt b5), (7, pt b7), (10, pt b29), (11, nt (k : Int)), (13, pt b94), (14, nt (decE ts x (tallyT ((svcK ts (tot xs) now r1 ⟨s, r1, []⟩ k).s) (k : Int)) (tot xs) now))] <| GI_end ?_
    exact X_join [(4, pt b1), (6, pt b5), (7, pt b7), (10, pt b29), (11, nt (k : Int)), (13, pt b94), (14, nt (decE ts x (tallyT ((svcK ts (tot xs) now r1 ⟨s, r1, []⟩ k).s) (k : Int)) (tot xs) now))] rfl ⟨b94, hb94_104, by omega, hk50, rfl⟩
   ·
    refine Mr 0 (pt v) qjb5 <| Gn [4, 12, 5, 6, 0, 1, 7, 8, 9, 10, 13, 11, 14] [4, 5, 6, 7, 10, 11, 12, 49, 50] <| Hg (tally_spec Fk v ((svcK ts (tot xs) now r1 ⟨s, r1, []⟩ k).s) (k : Int) _ (jV).1) ?_
    rintro _ w109 ⟨rfl, hk110⟩
    have K111 := K56.tr (Keep.ofNone hk110)
    refine ⟨_, rfl, K111, ?_⟩
    have hzK111 := Keep.size K111
    have hsz112 := Keep.size hk110
    replace jhl := jhl.keep hk110 nk
    replace jR := jR.keep hk110 nk
    replace hk50 := hk50.tn hk110
    refine GI_alloc 57 (.agg (Rfm.cells Rfm.zero).toArray) (Rfm.cells Rfm.zero) (some 13) (by kernel_rfl) (by kernel_rfl) K111 (by kernel_rfl) (by kernel_rfl) ?_
    intro b113 w113 e113 hb113 k113 z113 K114
    have hsz115 := Keep.size k113
    replace jhl := jhl.keep k113 nk
    replace jR := jR.keep k113 nk
    replace hk50 := hk50.tn k113
    have hb113lt := hb113.lt
    refine Mr 0 (pt l) qjb3 <| Hg (issued_spec G l xs cs _ jhl) ?_
    rintro _ w118 ⟨rfl, hk119⟩
    have K120 := K114.tr (Keep.ofNone hk119)
    refine ⟨_, rfl, K120, ?_⟩
    have hzK120 := Keep.size K120
    have hsz121 := Keep.size hk119
    replace jR := jR.keep hk119 nk
    replace hk50 := hk50.tn hk119
    refine Mr 0 (pt r) qjb1 <| Ma 0 (Rfm.cells x) 45 qhb41_46 id (take_all (Rfm.len _)) (Rfm.len _) <| Mr 0 (nt now) qjb7 <| Hg (decides_spec Hk r g ts (svcK ts (tot xs) now r1 ⟨s, r1, []⟩ k).rs x (tallyT ((svcK ts (tot xs) now r1 ⟨s, r1, []⟩ k).s) (k : Int)) (tot xs) now _ jR hxt) ?_
    rintro _ w122 ⟨rfl, hk123⟩
    have K124 := K120.tr (Keep.ofNone hk123)
    refine ⟨_, rfl, K124, ?_⟩
    have hzK124 := Keep.size K124
    have hsz125 := Keep.size hk123
    replace hb113 := hb113.k0 (hk119.tr hk123)
    replace hk50 := hk50.tn hk123
    refine Gn [13, 11, 14] [4, 6, 7, 10, 11, 13, 46, 56] <| GI_set (m := 45) (kd := true) 57 (.tmp 13) (.tmp 56) 0 (.agg (Rfm.cells (decY ts x (tallyT ((svcK ts (tot xs) now r1 ⟨s, r1, []⟩ k).s) (k : Int)) (tot xs) now)).toArray) (Rfm.cells (decY ts x (tallyT ((svcK ts (tot xs) now r1 ⟨s, r1, []⟩ k).s) (k : Int)) (tot xs) now)) none (by kernel_rfl) (by kernel_rfl) (by kernel_rfl) (by kernel_rfl) hb113 (by kernel_rfl) rfl (Rfm.len _) (Nat.le_of_ble_eq_true (by kernel_rfl)) (Rfm.one _) K124 (fun hh => absurd hh (by omega)) ?_
    intro w126 hb113_129 hk127 hz128 K130
    replace hb113_129 : Blk w126 b113 (Rfm.cells (decY ts x (tallyT ((svcK ts (tot xs) now r1 ⟨s, r1, []⟩ k).s) (k : Int)) (tot xs) now)) 57 := (Blk.eqL (Rfm.over _ _) hb113_129)
    have hsz131 := Keep.size hk127
    replace hk50 := Keep.fr hk50 hk127
    refine Gs [] [(4, pt b1), (6, pt b5), (7, pt b7), (10, pt b29), (11, nt (k : Int)), (13, pt b113), (14, nt (decE ts x (tallyT ((svcK ts (tot xs) now r1 ⟨s, r1, []⟩ k).s) (k : Int)) (tot xs) now))] <| GI_end ?_
    exact X_join [(4, pt b1), (6, pt b5), (7, pt b7), (10, pt b29), (11, nt (k : Int)), (13, pt b113), (14, nt (decE ts x (tallyT ((svcK ts (tot xs) now r1 ⟨s, r1, []⟩ k).s) (k : Int)) (tot xs) now))] rfl ⟨b113, hb113_129, by omega, hk50, rfl⟩
   ·
    refine GI_alloc 57 (.agg (Rfm.cells Rfm.zero).toArray) (Rfm.cells Rfm.zero) (some 13) (by kernel_rfl) (by kernel_rfl) K56 (by kernel_rfl) (by kernel_rfl) ?_
    intro b132 w132 e132 hb132 k132 z132 K133
    have hsz134 := Keep.size k132
    replace jhl := jhl.keep k132 nk
    replace jR := jR.keep k132 nk
    replace jV := jV.keep k132 nk
    replace hk50 := hk50.tn k132
    have hb132lt := hb132.lt
    refine Mr 0 (pt v) qjb5 <| Gn [4, 5, 6, 0, 1, 7, 8, 9, 10, 13, 11, 14] [4, 5, 6, 7, 10, 11, 12, 13, 49, 50] <| Hg (tally_spec Fk v ((svcK ts (tot xs) now r1 ⟨s, r1, []⟩ k).s) (k : Int) _ (jV).1) ?_
    rintro _ w137 ⟨rfl, hk138⟩
    have K139 := K133.tr (Keep.ofNone hk138)
    refine ⟨_, rfl, K139, ?_⟩
    have hzK139 := Keep.size K139
    have hsz140 := Keep.size hk138
    replace jhl := jhl.keep hk138 nk
    replace jR := jR.keep hk138 nk
    replace hk50 := hk50.tn hk138
    refine Mr 0 (pt l) qjb3 <| Hg (issued_spec G l xs cs _ jhl) ?_
    rintro _ w143 ⟨rfl, hk144⟩
    have K145 := K139.tr (Keep.ofNone hk144)
    refine ⟨_, rfl, K145, ?_⟩
    have hzK145 := Keep.size K145
    have hsz146 := Keep.size hk144
    replace jR := jR.keep hk144 nk
    replace hk50 := hk50.tn hk144
    refine Mr 0 (pt r) qjb1 <| Ma 0 (Rfm.cells x) 45 qhb41_46 id (take_all (Rfm.len _)) (Rfm.len _) <| Mr 0 (nt now) qjb7 <| Hg (decides_spec Hk r g ts (svcK ts (tot xs) now r1 ⟨s, r1, []⟩ k).rs x (tallyT ((svcK ts (tot xs) now r1 ⟨s, r1, []⟩ k).s) (k : Int)) (tot xs) now _ jR hxt) ?_
    rintro _ w147 ⟨rfl, hk148⟩
    have K149 := K145.tr (Keep.ofNone hk148)
    refine ⟨_, rfl, K149, ?_⟩
    have hzK149 := Keep.size K149
    have hsz150 := Keep.size hk148
    replace hb132 := hb132.k0 ((hk138.tr hk144).tr hk148)
    replace hk50 := hk50.tn hk148
    refine Gn [13, 11, 14] [4, 6, 7, 10, 11, 13, 46, 56] <| GI_set (m := 45) (kd := true) 57 (.tmp 13) (.tmp 56) 0 (.agg (Rfm.cells (decY ts x (tallyT ((svcK ts (tot xs) now r1 ⟨s, r1, []⟩ k).s) (k : Int)) (tot xs) now)).toArray) (Rfm.cells (decY ts x (tallyT ((svcK ts (tot xs) now r1 ⟨s, r1, []⟩ k).s) (k : Int)) (tot xs) now)) none (by kernel_rfl) (by kernel_rfl) (by kernel_rfl) (by kernel_rfl) hb132 (by kernel_rfl) rfl (Rfm.len _) (Nat.le_of_ble_eq_true (by kernel_rfl)) (Rfm.one _) K149 (fun hh => absurd hh (by omega)) ?_
    intro w151 hb132_154 hk152 hz153 K155
    replace hb132_154 : Blk w151 b132 (Rfm.cells (decY ts x (tallyT ((svcK ts (tot xs) now r1 ⟨s, r1, []⟩ k).s) (k : Int)) (tot xs) now)) 57 := (Blk.eqL (Rfm.over _ _) hb132_154)
    have hsz156 := Keep.size hk152
    replace hk50 := Keep.fr hk50 hk152
    refine Gs [] [(4, pt b1), (6, pt b5), (7, pt b7), (10, pt b29), (11, nt (k : Int)), (13, pt b132), (14, nt (decE ts x (tallyT ((svcK ts (tot xs) now r1 ⟨s, r1, []⟩ k).s) (k : Int)) (tot xs) now))] <| GI_end ?_
    exact X_join [(4, pt b1), (6, pt b5), (7, pt b7), (10, pt b29), (11, nt (k : Int)), (13, pt b132), (14, nt (decE ts x (tallyT ((svcK ts (tot xs) now r1 ⟨s, r1, []⟩ k).s) (k : Int)) (tot xs) now))] rfl ⟨b132, hb132_154, by omega, hk50, rfl⟩
  ·
   rintro w157 _ ⟨b13, hb13, hb13g, hk158, rfl⟩
   have hsz159 := Keep.size hk158
   replace jhl := jhl.keep hk158 nk
   replace jhK0 := jhK0.tn hk158
   replace jR := jR.keep hk158 nk
   replace jV := jV.keep hk158 nk
   replace hfenb := hfenb.tn hk158
   have hb13lt := hb13.lt
   refine V_seq <| V_draws (acts [6]) none_ [[0, 1, 2, 3, 4, 5, 6]] (by kernel_rfl) (by repeat first | exact (by first | exact sure_postM | exact sure_rQ2 | exact sure_no) | refine sure_then ?_ | refine sure_block ?_ | refine sure_join ?_) (by kernel_rfl) ?_
   intro w161 hk160 he162 L hL163
   have hsz164 := Keep.size hk160
   replace jr := jr.k0 (hk158.tr hk160)
   replace jb1 := jb1.k0 (hk158.tr hk160)
   replace jb3 := jb3.k0 (hk158.tr hk160)
   replace jb5 := jb5.k0 (hk158.tr hk160)
   replace jb7 := jb7.k0 (hk158.tr hk160)
   replace jb29 := jb29.k0 (hk158.tr hk160)
   replace jbs36 := jbs36.k0 (hk158.tr hk160)
   replace jbn37 := jbn37.k0 (hk158.tr hk160)
   replace hb13 := hb13.k0 hk160
   replace jA := jA.keep0 (hk158.tr hk160)
   replace jA2 := jA2.keep0 (hk158.tr hk160)
   replace jAk := jAk.keep0 (hk158.tr hk160)
   replace jhl := jhl.keep hk160 nk
   replace jhK0 := jhK0.tn hk160
   replace jR := jR.keep hk160 nk
   replace jV := jV.keep hk160 nk
   replace hfenb := hfenb.tn hk160
   have qjr := jr
   have qjb1 := jb1
   have qjb5 := jb5
   have qjb7 := jb7
   have qhb13 := hb13
   have K165 : Keep none_ w161 w161 := Keep.refl _ _
   obtain rfl := List.mem_singleton.1 hL163
   refine Mr 0 (pt r) qjb1 <| Gn [3, 4, 5, 6] [4, 6, 7, 10, 11, 13, 14, 60] <| Mr 1 (pt g) qjr <| Gn [5, 6] [4, 6, 7, 10, 11, 13, 14, 61, 62] <| Ma 0 (Rfm.cells (decY ts x (tallyT ((svcK ts (tot xs) now r1 ⟨s, r1, []⟩ k).s) (k : Int)) (tot xs) now)) 45 qhb13 id (take_all (Rfm.len _)) (Rfm.len _) <| GI_final 6 (by kernel_rfl) (by kernel_rfl) <| Kg (rset_spec Hk r g ts (svcK ts (tot xs) now r1 ⟨s, r1, []⟩ k).rs (k : Int) (decY ts x (tallyT ((svcK ts (tot xs) now r1 ⟨s, r1, []⟩ k).s) (k : Int)) (tot xs) now) _ jR (by omega) (by rw [decY_trk]; exact hxt)) ?_
   rintro _ w170 ⟨rfl, ⟨H172, hR173, hfr174⟩, hk171⟩
   refine ⟨_, rfl, ?_⟩
   have hsz175 := Keep.size hk171
   replace jr := jr.keep hk171 (fun hs => by have h1 := hgo _ hs; have h2 := hgl _ hs; omega)
   replace jb1 := jb1.keep hk171 (fun hs => by have h1 := hgo _ hs; have h2 := hgl _ hs; omega)
   replace jb3 := jb3.keep hk171 (fun hs => by have h1 := hgo _ hs; have h2 := hgl _ hs; omega)
   replace jb5 := jb5.keep hk171 (fun hs => by have h1 := hgo _ hs; have h2 := hgl _ hs; omega)
   replace jb7 := jb7.keep hk171 (fun hs => by have h1 := hgo _ hs; have h2 := hgl _ hs; omega)
   replace jb29 := jb29.keep hk171 (fun hs => by have h1 := hgo _ hs; have h2 := hgl _ hs; omega)
   replace jbs36 := jbs36.keep hk171 (fun hs => by have h1 := hgo _ hs; have h2 := hgl _ hs; omega)
   replace jbn37 := jbn37.keep hk171 (fun hs => by have h1 := hgo _ hs; have h2 := hgl _ hs; omega)
   replace jA := jA.keep hk171 (fun q hq hs => (fun q h1 h2 => (hAo q h2).2.2 h1) q hs hq)
   replace jA2 := jA2.keep hk171 (fun q hq hs => by have g0 := owA2 q hq; have g1 := ltjA2 q hq; have h1 := hgo q hs; have h2 := hgl q hs; omega)
   replace jAk := jAk.keep hk171 (fun q hq hs => (fun q h1 h2 => (fun q h1 h2 => dAkH q h2 h1) q (by rw [show q = g from h1]; exact (Rfr.atg jR)) h2) q hs hq)
   replace jhl := jhl.keep hk171 (fun q hq hs => (fun q h1 h2 => dHG q (by rw [show q = g from h1]; exact (Rfr.atg jR)) h2) q hs hq)
   replace jhK0 := Keep.fresh jhK0 hk171 (by intro i hi hs; first | exact hs | (exfalso; have h1 := hgo i hs; have h2 := hgl i hs; omega) | (have h1 := hgo i hs; have h2 := hgl i hs; show _ ∨ _; omega))
   replace jV := jV.keep hk171 (fun q hq hs => (fun q h1 h2 => dHF q (by rw [show q = g from h1]; exact (Rfr.atg jR)) h2) q hs hq)
   replace hfenb := Keep.fresh hfenb hk171 (by intro i hi hs; have h1 := hgo i hs; have h2 := hgl i hs; show _ ∨ _; omega)
   have own177 : ∀ q, H172 q → (q < w33.heap.size ∨ M1 ≤ q) ∧ q ≠ b1 ∧ q ≠ b3 ∧ q ≠ b5 ∧ q ≠ b7 ∧ q ≠ b29 ∧ q ≠ bs36 ∧ q ≠ bn37 ∧ q ≠ b41 ∧ q ≠ b13 := fun q hq => by rcases hfr174 q hq with h | h; (have h1 := hHko q h; have h2 := lt39 q h; omega); omega
   have lt176 := Rfr.lt hR173
   have rel178 : ∀ q, H172 q → H q ∨ w.heap.size ≤ q := fun q hq => by rcases hfr174 q hq with h | h; exact hHkr q h; exact .inr (by omega)
   have dis179 : ∀ q, H172 q → ¬ inA Ak q := fun q h1 h2 => by rcases hfr174 q h1 with h | h; exact (fun q h1 h2 => dAkH q h2 h1) q h h2; (have h4 := ltjAk q h2; omega)
   have dis180 : ∀ q, H172 q → ¬ G q := fun q h1 h2 => by rcases hfr174 q h1 with h | h; exact dHG q h h2; (have h4 := hGlt q h2; omega)
   have dis181 : ∀ q, H172 q → ¬ Fk q := fun q h1 h2 => by rcases hfr174 q h1 with h | h; exact dHF q h h2; (have h4 := lt40 q h2; omega)
   refine Oer <| Ose [(4, pt b1), (6, pt b5), (7, pt b7), (10, pt b29), (11, nt (k : Int)), (14, nt (decE ts x (tallyT ((svcK ts (tot xs) now r1 ⟨s, r1, []⟩ k).s) (k : Int)) (tot xs) now)), (66, .bool (!(decide (decE ts x (tallyT ((svcK ts (tot xs) now r1 ⟨s, r1, []⟩ k).s) (k : Int)) (tot xs) now = 0))))] <| V_not (decE ts x (tallyT ((svcK ts (tot xs) now r1 ⟨s, r1, []⟩ k).s) (k : Int)) (tot xs) now = 0) (by kernel_rfl) (fun hc182 => ?_) (fun hc182 => ?_)
   ·
    refine V_draws (acts [0, 6, 7, 8, 9]) (fun q => q = g ∨ Fk q) [[0, 1, 2, 3, 4, 5, 6, 7, 8, 9], [1, 2, 3, 4, 5, 6, 0, 7, 8, 9], [1, 2, 3, 4, 5, 6, 7, 0, 8, 9]] (by kernel_rfl) (by repeat first | exact (by first | exact sure_postM | exact sure_rQ2 | exact sure_no) | refine sure_then ?_ | refine sure_block ?_ | refine sure_join ?_) (by kernel_rfl) ?_
    intro w184 hk183 he185 L hL186
    have hsz187 := Keep.size hk183
    replace jr := jr.k0 hk183
    replace jb1 := jb1.k0 hk183
    replace jb3 := jb3.k0 hk183
    replace jb5 := jb5.k0 hk183
    replace jb7 := jb7.k0 hk183
    replace jb29 := jb29.k0 hk183
    replace jbs36 := jbs36.k0 hk183
    replace jbn37 := jbn37.k0 hk183
    replace jA := jA.keep0 hk183
    replace jA2 := jA2.keep0 hk183
    replace jAk := jAk.keep0 hk183
    replace jhl := jhl.keep hk183 nk
    replace jhK0 := jhK0.tn hk183
    replace jV := jV.keep hk183 nk
    replace hfenb := hfenb.tn hk183
    replace hR173 := hR173.keep hk183 nk
    have qjb1 := jb1
    have qjb5 := jb5
    have qjb7 := jb7
    have K188 : Keep (fun q => q = g ∨ Fk q) w184 w184 := Keep.refl _ _
    simp only [List.mem_cons, List.not_mem_nil, or_false] at hL186
    rcases hL186 with rfl | rfl | rfl
    ·
     refine GI_cellA 50 (.tmp 10) 0 (.slice Ak ((svcK ts (tot xs) now r1 ⟨s, r1, []⟩ k).out.length) capk) (some 67) (by kernel_rfl) (by kernel_rfl) K188 (by kernel_rfl) jb29 (m := 1) (by kernel_rfl) rfl <| Mc 0 (pt r) qjb1 (fun hs => by rcases hs with hs | hs; omega; (have h1 := hFko _ hs; omega)) rfl <| Mc 0 (pt v) qjb5 (fun hs => by rcases hs with hs | hs; omega; (have h1 := hFko _ hs; omega)) rfl <| Gs [5, 6, 7, 8, 9] [(7, pt b7), (10, pt b29), (67, .slice Ak ((svcK ts (tot xs) now r1 ⟨s, r1, []⟩ k).out.length) capk), (68, pt r), (69, pt v), (70, nt (k : Int)), (71, nt (decE ts x (tallyT ((svcK ts (tot xs) now r1 ⟨s, r1, []⟩ k).s) (k : Int)) (tot xs) now))] <| Gc 3 (.tmp 7) 0 (nt now) (some 72) qjb7 (fun hs => by rcases hs with hs | hs; omega; (have h1 := hFko _ hs; omega)) rfl <| GI_final 6 (by kernel_rfl) (by kernel_rfl) <| Ok (kl 52 #[(.tmp 68), (.tmp 69), (.tmp 70), (.tmp 71), (.tmp 72)] #[34, 33, 3, 3, 3]) 52 #[pt r, pt v, nt (k : Int), nt (decE ts x (tallyT ((svcK ts (tot xs) now r1 ⟨s, r1, []⟩ k).s) (k : Int)) (tot xs) now), nt now] (some 73) (ends_spec H172 r g ts ((svcK ts (tot xs) now r1 ⟨s, r1, []⟩ k).rs.set (k : Int).toNat (decY ts x (tallyT ((svcK ts (tot xs) now r1 ⟨s, r1, []⟩ k).s) (k : Int)) (tot xs) now)) Fk v ((svcK ts (tot xs) now r1 ⟨s, r1, []⟩ k).s) (k : Int) (decE ts x (tallyT ((svcK ts (tot xs) now r1 ⟨s, r1, []⟩ k).s) (k : Int)) (tot xs) now) now _ hR173 jV dis181 (getA_len (by rw [List.length_set]; omega))) ?_
     rintro _ w191 ⟨rfl, ⟨F193, F196, ho194, ho197, hfr195, hfr198, hdis199⟩, hk192⟩
     refine ⟨_, rfl, ?_⟩
     have hsz200 := Keep.size hk192
     replace jr := jr.keep hk192 (fun hs => by rcases hs with hs | hs; (have u0 := hgo _ hs; have u1 := hgl _ hs; omega); (have u0 := hFko _ hs; have u1 := lt40 _ hs; omega))
     replace jb1 := jb1.keep hk192 (fun hs => by rcases hs with hs | hs; (have u0 := hgo _ hs; have u1 := hgl _ hs; omega); (have u0 := hFko _ hs; have u1 := lt40 _ hs; omega))
     replace jb3 := jb3.keep hk192 (fun hs => by rcases hs with hs | hs; (have u0 := hgo _ hs; have u1 := hgl _ hs; omega); (have u0 := hFko _ hs; have u1 := lt40 _ hs; omega))
     replace jb5 := jb5.keep hk192 (fun hs => by rcases hs with hs | hs; (have u0 := hgo _ hs; have u1 := hgl _ hs; omega); (have u0 := hFko _ hs; have u1 := lt40 _ hs; omega))
     replace jb7 := jb7.keep hk192 (fun hs => by rcases hs with hs | hs; (have u0 := hgo _ hs; have u1 := hgl _ hs; omega); (have u0 := hFko _ hs; have u1 := lt40 _ hs; omega))
     replace jb29 := jb29.keep hk192 (fun hs => by rcases hs with hs | hs; (have u0 := hgo _ hs; have u1 := hgl _ hs; omega); (have u0 := hFko _ hs; have u1 := lt40 _ hs; omega))
     replace jbs36 := jbs36.keep hk192 (fun hs => by rcases hs with hs | hs; (have u0 := hgo _ hs; have u1 := hgl _ hs; omega); (have u0 := hFko _ hs; have u1 := lt40 _ hs; omega))
     replace jbn37 := jbn37.keep hk192 (fun hs => by rcases hs with hs | hs; (have u0 := hgo _ hs; have u1 := hgl _ hs; omega); (have u0 := hFko _ hs; have u1 := lt40 _ hs; omega))
     replace jA := jA.keep hk192 (fun q hq hs => by rcases hs with hs | hs; exact (hAo q hq).2.2 hs; exact (fun q h1 h2 => dFA q h2 h1) q hq hs)
     replace jA2 := jA2.keep hk192 (fun q hq hs => by rcases hs with hs | hs; (have g0 := owA2 q hq; have g1 := ltjA2 q hq; have u9 : q = g := hs; omega); exact (fun q h1 h2 => dFA2 q h2 h1) q hq hs)
     replace jAk := jAk.keep hk192 (fun q hq hs => by rcases hs with hs | hs; exact (fun q h1 h2 => dis179 q h2 h1) q hq (by rw [show q = g from hs]; exact (Rfr.atg hR173)); exact dAkF q hq hs)
     replace jhl := jhl.keep hk192 (fun q hq hs => by rcases hs with hs | hs; exact (fun q h1 h2 => dis180 q h2 h1) q hq (by rw [show q = g from hs]; exact (Rfr.atg hR173)); exact (fun q h1 h2 => dFG q h2 h1) q hq hs)
     replace jhK0 := Keep.fresh jhK0 hk192 (fun i hi hs => by rcases hs with hs | hs; (exact .inl hs); (rcases hFkr i hs with h | h; exact .inr <| h; (exfalso; omega)))
     replace hfenb := Keep.fresh hfenb hk192 (by intro i hi hs; rcases hs with hs | hs; (have u0 := hgo i hs; have u1 := hgl i hs; show _ ∨ _; omega); (have u0 := hFko i hs; have u1 := lt40 i hs; show _ ∨ _; omega))
     have own202 : ∀ q, F193 q → (q < w33.heap.size ∨ M1 ≤ q) ∧ q ≠ b1 ∧ q ≠ b3 ∧ q ≠ b5 ∧ q ≠ b7 ∧ q ≠ b29 ∧ q ≠ bs36 ∧ q ≠ bn37 ∧ q ≠ b41 ∧ q ≠ b13 := fun q hq => by rcases hfr195 q hq with h | h; (have h1 := own177 q h; have h2 := lt176 q h; omega); omega
     have lt201 := Rfr.lt ho194
     have rel203 : ∀ q, F193 q → H q ∨ w.heap.size ≤ q := fun q hq => by rcases hfr195 q hq with h | h; exact rel178 q h; exact .inr (by omega)
     have dis204 : ∀ q, F193 q → ¬ inA Ak q := fun q h1 h2 => by rcases hfr195 q h1 with h | h; exact dis179 q h h2; (have h4 := ltjAk q h2; omega)
     have dis205 : ∀ q, F193 q → ¬ G q := fun q h1 h2 => by rcases hfr195 q h1 with h | h; exact dis180 q h h2; (have h4 := hGlt q h2; omega)
     have own207 : ∀ q, F196 q → (q < w33.heap.size ∨ M1 ≤ q) ∧ q ≠ r ∧ q ≠ b1 ∧ q ≠ b3 ∧ q ≠ b5 ∧ q ≠ b7 ∧ q ≠ b29 ∧ q ≠ bs36 ∧ q ≠ bn37 ∧ q ≠ b41 ∧ q ≠ b13 := fun q hq => by rcases hfr198 q hq with h | h; (have h1 := hFko q h; have h2 := lt40 q h; omega); omega
     have lt206 := VotT.lt ho197
     have rel208 : ∀ q, F196 q → F q ∨ w.heap.size ≤ q := fun q hq => by rcases hfr198 q hq with h | h; exact hFkr q h; exact .inr (by omega)
     have dis209 : ∀ q, F196 q → ¬ inA A q := fun q h1 h2 => by rcases hfr198 q h1 with h | h; exact dFA q h h2; (have h4 := ltjA q h2; omega)
     have dis210 : ∀ q, F196 q → ¬ inA A2 q := fun q h1 h2 => by rcases hfr198 q h1 with h | h; exact dFA2 q h h2; (have h4 := ltjA2 q h2; omega)
     have dis211 : ∀ q, F196 q → ¬ inA Ak q := fun q h1 h2 => by rcases hfr198 q h1 with h | h; exact (fun q h1 h2 => dAkF q h2 h1) q h h2; (have h4 := ltjAk q h2; omega)
     have dis212 : ∀ q, F196 q → ¬ G q := fun q h1 h2 => by rcases hfr198 q h1 with h | h; exact dFG q h h2; (have h4 := hGlt q h2; omega)
     refine OI_slit (E := 53) (zv := .agg #[nt 0, nt 0, nt 0]) (sz := 3) (by_ := 24) 50 1 #[(0, (Operand.tmp 73))] [.agg (Evt.cells (Evt.mk 1 (k : Int) (decE ts x (tallyT ((svcK ts (tot xs) now r1 ⟨s, r1, []⟩ k).s) (k : Int)) (tot xs) now))).toArray] (Evt.cells (Evt.mk 1 (k : Int) (decE ts x (tallyT ((svcK ts (tot xs) now r1 ⟨s, r1, []⟩ k).s) (k : Int)) (tot xs) now))) (some 74) (by kernel_rfl) (by kernel_rfl) (by kernel_rfl) (by omega) rfl (by omega) (by intro v hv; obtain rfl := List.mem_singleton.1 hv; show (Evt.cells (Evt.mk 1 (k : Int) (decE ts x (tallyT ((svcK ts (tot xs) now r1 ⟨s, r1, []⟩ k).s) (k : Int)) (tot xs) now))).toArray.size = 3; simp [Evt.len]) (by kernel_rfl) (by show (Evt.cells (Evt.mk 1 (k : Int) (decE ts x (tallyT ((svcK ts (tot xs) now r1 ⟨s, r1, []⟩ k).s) (k : Int)) (tot xs) now))).toArray.toList ++ [] = _; simp) ?_
     intro b213 w213 e213 hb213 k213 z213
     have hsz214 := Keep.size k213
     replace jr := jr.k0 k213
     replace jb1 := jb1.k0 k213
     replace jb3 := jb3.k0 k213
     replace jb5 := jb5.k0 k213
     replace jb7 := jb7.k0 k213
     replace jb29 := jb29.k0 k213
     replace jbs36 := jbs36.k0 k213
     replace jbn37 := jbn37.k0 k213
     replace jA := jA.keep0 k213
     replace jA2 := jA2.keep0 k213
     replace jAk := jAk.keep0 k213
     replace jhl := jhl.keep k213 nk
     replace jhK0 := jhK0.tn k213
     replace hfenb := hfenb.tn k213
     replace ho194 := ho194.keep k213 nk
     replace ho197 := ho197.keep k213 nk
     have hb213lt := hb213.lt
     refine OI_append (t := 50) (at2 := 50) (E := 53) (E2 := 53) (sz := 3) (by_ := 24) (zv := .agg #[nt 0, nt 0, nt 0]) (m := ((svcK ts (tot xs) now r1 ⟨s, r1, []⟩ k).out).length) (k := 1) (.tmp 67) (.tmp 74) (.slice Ak ((svcK ts (tot xs) now r1 ⟨s, r1, []⟩ k).out.length) capk) (sl_ b213 0 1 1) (some 75) (by kernel_rfl) (by kernel_rfl) (by kernel_rfl) (by kernel_rfl) (by kernel_rfl) (by kernel_rfl) (by kernel_rfl) (SlT.slr jAk) (slr_one hb213 (Evt.len ((Evt.mk 1 (k : Int) (decE ts x (tallyT ((svcK ts (tot xs) now r1 ⟨s, r1, []⟩ k).s) (k : Int)) (tot xs) now))))) (Evt.one ((Evt.mk 1 (k : Int) (decE ts x (tallyT ((svcK ts (tot xs) now r1 ⟨s, r1, []⟩ k).s) (k : Int)) (tot xs) now)))) (by first | omega | (simp only [List.length_nil]; omega)) (by omega) (by first | omega | (simp only [List.length_nil]; omega)) (by omega) ?_
     intro vv9 w215 hap
     obtain ⟨A215, cap215, rfl, hA215, hk215, own215x⟩ := app_one (f := Evt.cells) (xs := ((svcK ts (tot xs) now r1 ⟨s, r1, []⟩ k).out)) (x := ((Evt.mk 1 (k : Int) (decE ts x (tallyT ((svcK ts (tot xs) now r1 ⟨s, r1, []⟩ k).s) (k : Int)) (tot xs) now)))) (A := Ak) (cap := capk) hap (fun x _ => Evt.len x) (Evt.len _)
     have own215 : ∀ q, inA A215 q → M1 ≤ q := fun q hq => by rcases own215x q hq with h | h; exact ownk q h; (show M1 ≤ q; omega)
     have hsz216 := Keep.size hk215
     replace jr := jr.keep hk215 (fun hs => by have h1 := ownk _ hs; have h2 := ltjAk _ hs; omega)
     replace jb1 := jb1.keep hk215 (fun hs => by have h1 := ownk _ hs; have h2 := ltjAk _ hs; omega)
     replace jb3 := jb3.keep hk215 (fun hs => by have h1 := ownk _ hs; have h2 := ltjAk _ hs; omega)
     replace jb5 := jb5.keep hk215 (fun hs => by have h1 := ownk _ hs; have h2 := ltjAk _ hs; omega)
     replace jb7 := jb7.keep hk215 (fun hs => by have h1 := ownk _ hs; have h2 := ltjAk _ hs; omega)
     replace jb29 := jb29.keep hk215 (fun hs => by have h1 := ownk _ hs; have h2 := ltjAk _ hs; omega)
     replace jbs36 := jbs36.keep hk215 (fun hs => by have h1 := ownk _ hs; have h2 := ltjAk _ hs; omega)
     replace jbn37 := jbn37.keep hk215 (fun hs => by have h1 := ownk _ hs; have h2 := ltjAk _ hs; omega)
     replace jA := jA.keep hk215 (fun q hq hs => by have g0 := hAr q hq; have g1 := ltjA q hq; have h1 := ownk q hs; have h2 := ltjAk q hs; omega)
     replace jA2 := jA2.keep hk215 (fun q hq hs => by have g0 := owA2 q hq; have g1 := ltjA2 q hq; have h1 := ownk q hs; have h2 := ltjAk q hs; omega)
     replace jhl := jhl.keep hk215 (fun q hq hs => (fun (q : Nat) (h1 : inA Ak q) (h2 : G q) => by have h3 := ownk q h1; have h4 := hGlt q h2; omega) q hs hq)
     replace jhK0 := Keep.fresh jhK0 hk215 (by intro i hi hs; first | exact hs | (exfalso; have h1 := ownk i hs; have h2 := ltjAk i hs; omega) | (have h1 := ownk i hs; have h2 := ltjAk i hs; show _ ∨ _; omega))
     replace hfenb := Keep.fresh hfenb hk215 (by intro i hi hs; have h1 := ownk i hs; have h2 := ltjAk i hs; show _ ∨ _; omega)
     replace ho194 := ho194.keep hk215 (fun q hq hs => (fun q h1 h2 => dis204 q h2 h1) q hs hq)
     replace ho197 := ho197.keep hk215 (fun q hq hs => (fun q h1 h2 => dis211 q h2 h1) q hs hq)
     have lt215 := SlT.lt hA215
     have dis217 : ∀ q, inA A215 q → ¬ G q := fun q h1 h2 => by rcases own215x q h1 with h | h; exact (fun (q : Nat) (h1 : G q) (h2 : inA Ak q) => by have h3 := ownk q h2; have h4 := hGlt q h1; omega) q h2 h; (have h4 := hGlt q h2; omega)
     have dis218 : ∀ q, inA A215 q → ¬ F193 q := fun q h1 h2 => by rcases own215x q h1 with h | h; exact dis204 q h2 h; (have h4 := lt201 q h2; omega)
     have dis219 : ∀ q, inA A215 q → ¬ F196 q := fun q h1 h2 => by rcases own215x q h1 with h | h; exact dis211 q h2 h; (have h4 := lt206 q h2; omega)
     refine St_ 0 (.slice A215 (((svcK ts (tot xs) now r1 ⟨s, r1, []⟩ k).out ++ [((Evt.mk 1 (k : Int) (decE ts x (tallyT ((svcK ts (tot xs) now r1 ⟨s, r1, []⟩ k).s) (k : Int)) (tot xs) now)))]).length) cap215) jb29 ?_
     intro w220 hb29_223 hk221 hz222
     replace hb29_223 : Blk w220 b29 [.slice A215 (((svcK ts (tot xs) now r1 ⟨s, r1, []⟩ k).out ++ [((Evt.mk 1 (k : Int) (decE ts x (tallyT ((svcK ts (tot xs) now r1 ⟨s, r1, []⟩ k).s) (k : Int)) (tot xs) now)))]).length) cap215] 50 := hb29_223
     have hsz224 := Keep.size hk221
     replace jr := jr.k1 hk221
     replace jb1 := jb1.k1 hk221
     replace jb3 := jb3.k1 hk221
     replace jb5 := jb5.k1 hk221
     replace jb7 := jb7.k1 hk221
     replace jbs36 := jbs36.k1 hk221
     replace jbn37 := jbn37.k1 hk221
     replace jA := jA.keep hk221 (fun q hq hs => by have hs : q = b29 := hs; have g0 := hAr q hq; have g1 := ltjA q hq; omega)
     replace jA2 := jA2.keep hk221 (fun q hq hs => by have hs : q = b29 := hs; have g0 := owA2 q hq; have g1 := ltjA2 q hq; omega)
     replace hA215 := hA215.keep hk221 (fun q hq hs => by have hs : q = b29 := hs; have g0 := own215 q hq; have g1 := lt215 q hq; omega)
     replace jhl := jhl.keep hk221 (fun q hq hs => by have hs : q = b29 := hs; have g0 := hlr q hq; have g1 := hGlt q hq; omega)
     replace jhK0 := Keep.fr jhK0 hk221
     replace hfenb := Keep.fresh hfenb hk221 (by intro i hi hs; have hs2 : i = b29 := hs; show _ ∨ _; omega)
     replace ho194 := ho194.keep hk221 (fun q hq hs => by have hs : q = b29 := hs; have g0 := own202 q hq; have g1 := lt201 q hq; omega)
     replace ho197 := ho197.keep hk221 (fun q hq hs => by have hs : q = b29 := hs; have g0 := own207 q hq; have g1 := lt206 q hq; omega)
     refine OI_end rfl <| X_block ?_
     have hq9 := hstp.trans (step_end hc49 hc182)
     rw [endR_set (by omega)] at ho194
     exact fun a _ => ⟨hfenb, A215, cap215, F193, F196, jr, jb1, jb3, jb5, jb7, jbs36, jbn37, jA, jA2, jhl, jhK0, by rw [hq9]; exact hb29_223, by rw [hq9]; exact hA215, by rw [hq9]; exact ho194, by rw [hq9]; exact ho197, own215, (fun q hq => by have h1 := own202 q hq; have h2 := lt201 q hq; omega), rel203, (fun q hq => by have h1 := own207 q hq; have h2 := lt206 q hq; omega), rel208, hdis199, dis205, dis212, dis210, dis209, dis218, dis219⟩
    ·
     refine Mc 0 (pt r) qjb1 (fun hs => by rcases hs with hs | hs; omega; (have h1 := hFko _ hs; omega)) rfl <| Mc 0 (pt v) qjb5 (fun hs => by rcases hs with hs | hs; omega; (have h1 := hFko _ hs; omega)) rfl <| Gs [5, 6, 0, 7, 8, 9] [(7, pt b7), (10, pt b29), (68, pt r), (69, pt v), (70, nt (k : Int)), (71, nt (decE ts x (tallyT ((svcK ts (tot xs) now r1 ⟨s, r1, []⟩ k).s) (k : Int)) (tot xs) now))] <| Gc 3 (.tmp 7) 0 (nt now) (some 72) qjb7 (fun hs => by rcases hs with hs | hs; omega; (have h1 := hFko _ hs; omega)) rfl <| Gk (kl 52 #[(.tmp 68), (.tmp 69), (.tmp 70), (.tmp 71), (.tmp 72)] #[34, 33, 3, 3, 3]) 52 #[pt r, pt v, nt (k : Int), nt (decE ts x (tallyT ((svcK ts (tot xs) now r1 ⟨s, r1, []⟩ k).s) (k : Int)) (tot xs) now), nt now] (some 73) (ends_spec H172 r g ts ((svcK ts (tot xs) now r1 ⟨s, r1, []⟩ k).rs.set (k : Int).toNat (decY ts x (tallyT ((svcK ts (tot xs) now r1 ⟨s, r1, []⟩ k).s) (k : Int)) (tot xs) now)) Fk v ((svcK ts (tot xs) now r1 ⟨s, r1, []⟩ k).s) (k : Int) (decE ts x (tallyT ((svcK ts (tot xs) now r1 ⟨s, r1, []⟩ k).s) (k : Int)) (tot xs) now) now _ hR173 jV dis181 (getA_len (by rw [List.length_set]; omega))) ?_
     rintro _ w227 ⟨rfl, ⟨F229, F232, ho230, ho233, hfr231, hfr234, hdis235⟩, hk228⟩
     have K236 := Keep.fresh K188 hk228 (by intro i hi hs; first | exact hs | (rcases hs with hs | hs; (have u0 := hgo i hs; have u1 := hgl i hs; omega); (have u0 := hFko i hs; have u1 := lt40 i hs; omega)))
     refine ⟨_, rfl, K236, ?_⟩
     have hzK236 := Keep.size K236
     have hsz237 := Keep.size hk228
     replace jr := jr.keep hk228 (fun hs => by rcases hs with hs | hs; (have u0 := hgo _ hs; have u1 := hgl _ hs; omega); (have u0 := hFko _ hs; have u1 := lt40 _ hs; omega))
     replace jb1 := jb1.keep hk228 (fun hs => by rcases hs with hs | hs; (have u0 := hgo _ hs; have u1 := hgl _ hs; omega); (have u0 := hFko _ hs; have u1 := lt40 _ hs; omega))
     replace jb3 := jb3.keep hk228 (fun hs => by rcases hs with hs | hs; (have u0 := hgo _ hs; have u1 := hgl _ hs; omega); (have u0 := hFko _ hs; have u1 := lt40 _ hs; omega))
     replace jb5 := jb5.keep hk228 (fun hs => by rcases hs with hs | hs; (have u0 := hgo _ hs; have u1 := hgl _ hs; omega); (have u0 := hFko _ hs; have u1 := lt40 _ hs; omega))
     replace jb7 := jb7.keep hk228 (fun hs => by rcases hs with hs | hs; (have u0 := hgo _ hs; have u1 := hgl _ hs; omega); (have u0 := hFko _ hs; have u1 := lt40 _ hs; omega))
     replace jb29 := jb29.keep hk228 (fun hs => by rcases hs with hs | hs; (have u0 := hgo _ hs; have u1 := hgl _ hs; omega); (have u0 := hFko _ hs; have u1 := lt40 _ hs; omega))
     replace jbs36 := jbs36.keep hk228 (fun hs => by rcases hs with hs | hs; (have u0 := hgo _ hs; have u1 := hgl _ hs; omega); (have u0 := hFko _ hs; have u1 := lt40 _ hs; omega))
     replace jbn37 := jbn37.keep hk228 (fun hs => by rcases hs with hs | hs; (have u0 := hgo _ hs; have u1 := hgl _ hs; omega); (have u0 := hFko _ hs; have u1 := lt40 _ hs; omega))
     replace jA := jA.keep hk228 (fun q hq hs => by rcases hs with hs | hs; exact (hAo q hq).2.2 hs; exact (fun q h1 h2 => dFA q h2 h1) q hq hs)
     replace jA2 := jA2.keep hk228 (fun q hq hs => by rcases hs with hs | hs; (have g0 := owA2 q hq; have g1 := ltjA2 q hq; have u9 : q = g := hs; omega); exact (fun q h1 h2 => dFA2 q h2 h1) q hq hs)
     replace jAk := jAk.keep hk228 (fun q hq hs => by rcases hs with hs | hs; exact (fun q h1 h2 => dis179 q h2 h1) q hq (by rw [show q = g from hs]; exact (Rfr.atg hR173)); exact dAkF q hq hs)
     replace jhl := jhl.keep hk228 (fun q hq hs => by rcases hs with hs | hs; exact (fun q h1 h2 => dis180 q h2 h1) q hq (by rw [show q = g from hs]; exact (Rfr.atg hR173)); exact (fun q h1 h2 => dFG q h2 h1) q hq hs)
     replace jhK0 := Keep.fresh jhK0 hk228 (fun i hi hs => by rcases hs with hs | hs; (exact .inl hs); (rcases hFkr i hs with h | h; exact .inr <| h; (exfalso; omega)))
     replace hfenb := Keep.fresh hfenb hk228 (by intro i hi hs; rcases hs with hs | hs; (have u0 := hgo i hs; have u1 := hgl i hs; show _ ∨ _; omega); (have u0 := hFko i hs; have u1 := lt40 i hs; show _ ∨ _; omega))
     have own239 : ∀ q, F229 q → (q < w33.heap.size ∨ M1 ≤ q) ∧ q ≠ b1 ∧ q ≠ b3 ∧ q ≠ b5 ∧ q ≠ b7 ∧ q ≠ b29 ∧ q ≠ bs36 ∧ q ≠ bn37 ∧ q ≠ b41 ∧ q ≠ b13 := fun q hq => by rcases hfr231 q hq with h | h; (have h1 := own177 q h; have h2 := lt176 q h; omega); omega
     have lt238 := Rfr.lt ho230
     have rel240 : ∀ q, F229 q → H q ∨ w.heap.size ≤ q := fun q hq => by rcases hfr231 q hq with h | h; exact rel178 q h; exact .inr (by omega)
     have dis241 : ∀ q, F229 q → ¬ inA Ak q := fun q h1 h2 => by rcases hfr231 q h1 with h | h; exact dis179 q h h2; (have h4 := ltjAk q h2; omega)
     have dis242 : ∀ q, F229 q → ¬ G q := fun q h1 h2 => by rcases hfr231 q h1 with h | h; exact dis180 q h h2; (have h4 := hGlt q h2; omega)
     have own244 : ∀ q, F232 q → (q < w33.heap.size ∨ M1 ≤ q) ∧ q ≠ r ∧ q ≠ b1 ∧ q ≠ b3 ∧ q ≠ b5 ∧ q ≠ b7 ∧ q ≠ b29 ∧ q ≠ bs36 ∧ q ≠ bn37 ∧ q ≠ b41 ∧ q ≠ b13 := fun q hq => by rcases hfr234 q hq with h | h; (have h1 := hFko q h; have h2 := lt40 q h; omega); omega
     have lt243 := VotT.lt ho233
     have rel245 : ∀ q, F232 q → F q ∨ w.heap.size ≤ q := fun q hq => by rcases hfr234 q hq with h | h; exact hFkr q h; exact .inr (by omega)
     have dis246 : ∀ q, F232 q → ¬ inA A q := fun q h1 h2 => by rcases hfr234 q h1 with h | h; exact dFA q h h2; (have h4 := ltjA q h2; omega)
     have dis247 : ∀ q, F232 q → ¬ inA A2 q := fun q h1 h2 => by rcases hfr234 q h1 with h | h; exact dFA2 q h h2; (have h4 := ltjA2 q h2; omega)
     have dis248 : ∀ q, F232 q → ¬ inA Ak q := fun q h1 h2 => by rcases hfr234 q h1 with h | h; exact (fun q h1 h2 => dAkF q h2 h1) q h h2; (have h4 := ltjAk q h2; omega)
     have dis249 : ∀ q, F232 q → ¬ G q := fun q h1 h2 => by rcases hfr234 q h1 with h | h; exact dFG q h h2; (have h4 := hGlt q h2; omega)
     refine GI_cellA 50 (.tmp 10) 0 (.slice Ak ((svcK ts (tot xs) now r1 ⟨s, r1, []⟩ k).out.length) capk) (some 67) (by kernel_rfl) (by kernel_rfl) K236 (by kernel_rfl) jb29 (m := 1) (by kernel_rfl) rfl <| GI_final 7 (by kernel_rfl) (by kernel_rfl) <| OI_slit (E := 53) (zv := .agg #[nt 0, nt 0, nt 0]) (sz := 3) (by_ := 24) 50 1 #[(0, (Operand.tmp 73))] [.agg (Evt.cells (Evt.mk 1 (k : Int) (decE ts x (tallyT ((svcK ts (tot xs) now r1 ⟨s, r1, []⟩ k).s) (k : Int)) (tot xs) now))).toArray] (Evt.cells (Evt.mk 1 (k : Int) (decE ts x (tallyT ((svcK ts (tot xs) now r1 ⟨s, r1, []⟩ k).s) (k : Int)) (tot xs) now))) (some 74) (by kernel_rfl) (by kernel_rfl) (by kernel_rfl) (by omega) rfl (by omega) (by intro v hv; obtain rfl := List.mem_singleton.1 hv; show (Evt.cells (Evt.mk 1 (k : Int) (decE ts x (tallyT ((svcK ts (tot xs) now r1 ⟨s, r1, []⟩ k).s) (k : Int)) (tot xs) now))).toArray.size = 3; simp [Evt.len]) (by kernel_rfl) (by show (Evt.cells (Evt.mk 1 (k : Int) (decE ts x (tallyT ((svcK ts (tot xs) now r1 ⟨s, r1, []⟩ k).s) (k : Int)) (tot xs) now))).toArray.toList ++ [] = _; simp) ?_
     intro b250 w250 e250 hb250 k250 z250
     have hsz251 := Keep.size k250
     replace jr := jr.k0 k250
     replace jb1 := jb1.k0 k250
     replace jb3 := jb3.k0 k250
     replace jb5 := jb5.k0 k250
     replace jb7 := jb7.k0 k250
     replace jb29 := jb29.k0 k250
     replace jbs36 := jbs36.k0 k250
     replace jbn37 := jbn37.k0 k250
     replace jA := jA.keep0 k250
     replace jA2 := jA2.keep0 k250
     replace jAk := jAk.keep0 k250
     replace jhl := jhl.keep k250 nk
     replace jhK0 := jhK0.tn k250
     replace hfenb := hfenb.tn k250
     replace ho230 := ho230.keep k250 nk
     replace ho233 := ho233.keep k250 nk
     have hb250lt := hb250.lt
     refine OI_append (t := 50) (at2 := 50) (E := 53) (E2 := 53) (sz := 3) (by_ := 24) (zv := .agg #[nt 0, nt 0, nt 0]) (m := ((svcK ts (tot xs) now r1 ⟨s, r1, []⟩ k).out).length) (k := 1) (.tmp 67) (.tmp 74) (.slice Ak ((svcK ts (tot xs) now r1 ⟨s, r1, []⟩ k).out.length) capk) (sl_ b250 0 1 1) (some 75) (by kernel_rfl) (by kernel_rfl) (by kernel_rfl) (by kernel_rfl) (by kernel_rfl) (by kernel_rfl) (by kernel_rfl) (SlT.slr jAk) (slr_one hb250 (Evt.len ((Evt.mk 1 (k : Int) (decE ts x (tallyT ((svcK ts (tot xs) now r1 ⟨s, r1, []⟩ k).s) (k : Int)) (tot xs) now))))) (Evt.one ((Evt.mk 1 (k : Int) (decE ts x (tallyT ((svcK ts (tot xs) now r1 ⟨s, r1, []⟩ k).s) (k : Int)) (tot xs) now)))) (by first | omega | (simp only [List.length_nil]; omega)) (by omega) (by first | omega | (simp only [List.length_nil]; omega)) (by omega) ?_
     intro vv9 w252 hap
     obtain ⟨A252, cap252, rfl, hA252, hk252, own252x⟩ := app_one (f := Evt.cells) (xs := ((svcK ts (tot xs) now r1 ⟨s, r1, []⟩ k).out)) (x := ((Evt.mk 1 (k : Int) (decE ts x (tallyT ((svcK ts (tot xs) now r1 ⟨s, r1, []⟩ k).s) (k : Int)) (tot xs) now)))) (A := Ak) (cap := capk) hap (fun x _ => Evt.len x) (Evt.len _)
     have own252 : ∀ q, inA A252 q → M1 ≤ q := fun q hq => by rcases own252x q hq with h | h; exact ownk q h; (show M1 ≤ q; omega)
     have hsz253 := Keep.size hk252
     replace jr := jr.keep hk252 (fun hs => by have h1 := ownk _ hs; have h2 := ltjAk _ hs; omega)
     replace jb1 := jb1.keep hk252 (fun hs => by have h1 := ownk _ hs; have h2 := ltjAk _ hs; omega)
     replace jb3 := jb3.keep hk252 (fun hs => by have h1 := ownk _ hs; have h2 := ltjAk _ hs; omega)
     replace jb5 := jb5.keep hk252 (fun hs => by have h1 := ownk _ hs; have h2 := ltjAk _ hs; omega)
     replace jb7 := jb7.keep hk252 (fun hs => by have h1 := ownk _ hs; have h2 := ltjAk _ hs; omega)
     replace jb29 := jb29.keep hk252 (fun hs => by have h1 := ownk _ hs; have h2 := ltjAk _ hs; omega)
     replace jbs36 := jbs36.keep hk252 (fun hs => by have h1 := ownk _ hs; have h2 := ltjAk _ hs; omega)
     replace jbn37 := jbn37.keep hk252 (fun hs => by have h1 := ownk _ hs; have h2 := ltjAk _ hs; omega)
     replace jA := jA.keep hk252 (fun q hq hs => by have g0 := hAr q hq; have g1 := ltjA q hq; have h1 := ownk q hs; have h2 := ltjAk q hs; omega)
     replace jA2 := jA2.keep hk252 (fun q hq hs => by have g0 := owA2 q hq; have g1 := ltjA2 q hq; have h1 := ownk q hs; have h2 := ltjAk q hs; omega)
     replace jhl := jhl.keep hk252 (fun q hq hs => (fun (q : Nat) (h1 : inA Ak q) (h2 : G q) => by have h3 := ownk q h1; have h4 := hGlt q h2; omega) q hs hq)
     replace jhK0 := Keep.fresh jhK0 hk252 (by intro i hi hs; first | exact hs | (exfalso; have h1 := ownk i hs; have h2 := ltjAk i hs; omega) | (have h1 := ownk i hs; have h2 := ltjAk i hs; show _ ∨ _; omega))
     replace hfenb := Keep.fresh hfenb hk252 (by intro i hi hs; have h1 := ownk i hs; have h2 := ltjAk i hs; show _ ∨ _; omega)
     replace ho230 := ho230.keep hk252 (fun q hq hs => (fun q h1 h2 => dis241 q h2 h1) q hs hq)
     replace ho233 := ho233.keep hk252 (fun q hq hs => (fun q h1 h2 => dis248 q h2 h1) q hs hq)
     have lt252 := SlT.lt hA252
     have dis254 : ∀ q, inA A252 q → ¬ G q := fun q h1 h2 => by rcases own252x q h1 with h | h; exact (fun (q : Nat) (h1 : G q) (h2 : inA Ak q) => by have h3 := ownk q h2; have h4 := hGlt q h1; omega) q h2 h; (have h4 := hGlt q h2; omega)
     have dis255 : ∀ q, inA A252 q → ¬ F229 q := fun q h1 h2 => by rcases own252x q h1 with h | h; exact dis241 q h2 h; (have h4 := lt238 q h2; omega)
     have dis256 : ∀ q, inA A252 q → ¬ F232 q := fun q h1 h2 => by rcases own252x q h1 with h | h; exact dis248 q h2 h; (have h4 := lt243 q h2; omega)
     refine St_ 0 (.slice A252 (((svcK ts (tot xs) now r1 ⟨s, r1, []⟩ k).out ++ [((Evt.mk 1 (k : Int) (decE ts x (tallyT ((svcK ts (tot xs) now r1 ⟨s, r1, []⟩ k).s) (k : Int)) (tot xs) now)))]).length) cap252) jb29 ?_
     intro w257 hb29_260 hk258 hz259
     replace hb29_260 : Blk w257 b29 [.slice A252 (((svcK ts (tot xs) now r1 ⟨s, r1, []⟩ k).out ++ [((Evt.mk 1 (k : Int) (decE ts x (tallyT ((svcK ts (tot xs) now r1 ⟨s, r1, []⟩ k).s) (k : Int)) (tot xs) now)))]).length) cap252] 50 := hb29_260
     have hsz261 := Keep.size hk258
     replace jr := jr.k1 hk258
     replace jb1 := jb1.k1 hk258
     replace jb3 := jb3.k1 hk258
     replace jb5 := jb5.k1 hk258
     replace jb7 := jb7.k1 hk258
     replace jbs36 := jbs36.k1 hk258
     replace jbn37 := jbn37.k1 hk258
     replace jA := jA.keep hk258 (fun q hq hs => by have hs : q = b29 := hs; have g0 := hAr q hq; have g1 := ltjA q hq; omega)
     replace jA2 := jA2.keep hk258 (fun q hq hs => by have hs : q = b29 := hs; have g0 := owA2 q hq; have g1 := ltjA2 q hq; omega)
     replace hA252 := hA252.keep hk258 (fun q hq hs => by have hs : q = b29 := hs; have g0 := own252 q hq; have g1 := lt252 q hq; omega)
     replace jhl := jhl.keep hk258 (fun q hq hs => by have hs : q = b29 := hs; have g0 := hlr q hq; have g1 := hGlt q hq; omega)
     replace jhK0 := Keep.fr jhK0 hk258
     replace hfenb := Keep.fresh hfenb hk258 (by intro i hi hs; have hs2 : i = b29 := hs; show _ ∨ _; omega)
     replace ho230 := ho230.keep hk258 (fun q hq hs => by have hs : q = b29 := hs; have g0 := own239 q hq; have g1 := lt238 q hq; omega)
     replace ho233 := ho233.keep hk258 (fun q hq hs => by have hs : q = b29 := hs; have g0 := own244 q hq; have g1 := lt243 q hq; omega)
     refine OI_end rfl <| X_block ?_
     have hq9 := hstp.trans (step_end hc49 hc182)
     rw [endR_set (by omega)] at ho230
     exact fun a _ => ⟨hfenb, A252, cap252, F229, F232, jr, jb1, jb3, jb5, jb7, jbs36, jbn37, jA, jA2, jhl, jhK0, by rw [hq9]; exact hb29_260, by rw [hq9]; exact hA252, by rw [hq9]; exact ho230, by rw [hq9]; exact ho233, own252, (fun q hq => by have h1 := own239 q hq; have h2 := lt238 q hq; omega), rel240, (fun q hq => by have h1 := own244 q hq; have h2 := lt243 q hq; omega), rel245, hdis235, dis242, dis249, dis247, dis246, dis255, dis256⟩
    ·
     refine Mc 0 (pt r) qjb1 (fun hs => by rcases hs with hs | hs; omega; (have h1 := hFko _ hs; omega)) rfl <| Mc 0 (pt v) qjb5 (fun hs => by rcases hs with hs | hs; omega; (have h1 := hFko _ hs; omega)) rfl <| Gs [5, 6, 7, 0, 8, 9] [(7, pt b7), (10, pt b29), (68, pt r), (69, pt v), (70, nt (k : Int)), (71, nt (decE ts x (tallyT ((svcK ts (tot xs) now r1 ⟨s, r1, []⟩ k).s) (k : Int)) (tot xs) now))] <| Gc 3 (.tmp 7) 0 (nt now) (some 72) qjb7 (fun hs => by rcases hs with hs | hs; omega; (have h1 := hFko _ hs; omega)) rfl <| Gk (kl 52 #[(.tmp 68), (.tmp 69), (.tmp 70), (.tmp 71), (.tmp 72)] #[34, 33, 3, 3, 3]) 52 #[pt r, pt v, nt (k : Int), nt (decE ts x (tallyT ((svcK ts (tot xs) now r1 ⟨s, r1, []⟩ k).s) (k : Int)) (tot xs) now), nt now] (some 73) (ends_spec H172 r g ts ((svcK ts (tot xs) now r1 ⟨s, r1, []⟩ k).rs.set (k : Int).toNat (decY ts x (tallyT ((svcK ts (tot xs) now r1 ⟨s, r1, []⟩ k).s) (k : Int)) (tot xs) now)) Fk v ((svcK ts (tot xs) now r1 ⟨s, r1, []⟩ k).s) (k : Int) (decE ts x (tallyT ((svcK ts (tot xs) now r1 ⟨s, r1, []⟩ k).s) (k : Int)) (tot xs) now) now _ hR173 jV dis181 (getA_len (by rw [List.length_set]; omega))) ?_
     rintro _ w264 ⟨rfl, ⟨F266, F269, ho267, ho270, hfr268, hfr271, hdis272⟩, hk265⟩
     have K273 := Keep.fresh K188 hk265 (by intro i hi hs; first | exact hs | (rcases hs with hs | hs; (have u0 := hgo i hs; have u1 := hgl i hs; omega); (have u0 := hFko i hs; have u1 := lt40 i hs; omega)))
     refine ⟨_, rfl, K273, ?_⟩
     have hzK273 := Keep.size K273
     have hsz274 := Keep.size hk265
     replace jr := jr.keep hk265 (fun hs => by rcases hs with hs | hs; (have u0 := hgo _ hs; have u1 := hgl _ hs; omega); (have u0 := hFko _ hs; have u1 := lt40 _ hs; omega))
     replace jb1 := jb1.keep hk265 (fun hs => by rcases hs with hs | hs; (have u0 := hgo _ hs; have u1 := hgl _ hs; omega); (have u0 := hFko _ hs; have u1 := lt40 _ hs; omega))
     replace jb3 := jb3.keep hk265 (fun hs => by rcases hs with hs | hs; (have u0 := hgo _ hs; have u1 := hgl _ hs; omega); (have u0 := hFko _ hs; have u1 := lt40 _ hs; omega))
     replace jb5 := jb5.keep hk265 (fun hs => by rcases hs with hs | hs; (have u0 := hgo _ hs; have u1 := hgl _ hs; omega); (have u0 := hFko _ hs; have u1 := lt40 _ hs; omega))
     replace jb7 := jb7.keep hk265 (fun hs => by rcases hs with hs | hs; (have u0 := hgo _ hs; have u1 := hgl _ hs; omega); (have u0 := hFko _ hs; have u1 := lt40 _ hs; omega))
     replace jb29 := jb29.keep hk265 (fun hs => by rcases hs with hs | hs; (have u0 := hgo _ hs; have u1 := hgl _ hs; omega); (have u0 := hFko _ hs; have u1 := lt40 _ hs; omega))
     replace jbs36 := jbs36.keep hk265 (fun hs => by rcases hs with hs | hs; (have u0 := hgo _ hs; have u1 := hgl _ hs; omega); (have u0 := hFko _ hs; have u1 := lt40 _ hs; omega))
     replace jbn37 := jbn37.keep hk265 (fun hs => by rcases hs with hs | hs; (have u0 := hgo _ hs; have u1 := hgl _ hs; omega); (have u0 := hFko _ hs; have u1 := lt40 _ hs; omega))
     replace jA := jA.keep hk265 (fun q hq hs => by rcases hs with hs | hs; exact (hAo q hq).2.2 hs; exact (fun q h1 h2 => dFA q h2 h1) q hq hs)
     replace jA2 := jA2.keep hk265 (fun q hq hs => by rcases hs with hs | hs; (have g0 := owA2 q hq; have g1 := ltjA2 q hq; have u9 : q = g := hs; omega); exact (fun q h1 h2 => dFA2 q h2 h1) q hq hs)
     replace jAk := jAk.keep hk265 (fun q hq hs => by rcases hs with hs | hs; exact (fun q h1 h2 => dis179 q h2 h1) q hq (by rw [show q = g from hs]; exact (Rfr.atg hR173)); exact dAkF q hq hs)
     replace jhl := jhl.keep hk265 (fun q hq hs => by rcases hs with hs | hs; exact (fun q h1 h2 => dis180 q h2 h1) q hq (by rw [show q = g from hs]; exact (Rfr.atg hR173)); exact (fun q h1 h2 => dFG q h2 h1) q hq hs)
     replace jhK0 := Keep.fresh jhK0 hk265 (fun i hi hs => by rcases hs with hs | hs; (exact .inl hs); (rcases hFkr i hs with h | h; exact .inr <| h; (exfalso; omega)))
     replace hfenb := Keep.fresh hfenb hk265 (by intro i hi hs; rcases hs with hs | hs; (have u0 := hgo i hs; have u1 := hgl i hs; show _ ∨ _; omega); (have u0 := hFko i hs; have u1 := lt40 i hs; show _ ∨ _; omega))
     have own276 : ∀ q, F266 q → (q < w33.heap.size ∨ M1 ≤ q) ∧ q ≠ b1 ∧ q ≠ b3 ∧ q ≠ b5 ∧ q ≠ b7 ∧ q ≠ b29 ∧ q ≠ bs36 ∧ q ≠ bn37 ∧ q ≠ b41 ∧ q ≠ b13 := fun q hq => by rcases hfr268 q hq with h | h; (have h1 := own177 q h; have h2 := lt176 q h; omega); omega
     have lt275 := Rfr.lt ho267
     have rel277 : ∀ q, F266 q → H q ∨ w.heap.size ≤ q := fun q hq => by rcases hfr268 q hq with h | h; exact rel178 q h; exact .inr (by omega)
     have dis278 : ∀ q, F266 q → ¬ inA Ak q := fun q h1 h2 => by rcases hfr268 q h1 with h | h; exact dis179 q h h2; (have h4 := ltjAk q h2; omega)
     have dis279 : ∀ q, F266 q → ¬ G q := fun q h1 h2 => by rcases hfr268 q h1 with h | h; exact dis180 q h h2; (have h4 := hGlt q h2; omega)
     have own281 : ∀ q, F269 q → (q < w33.heap.size ∨ M1 ≤ q) ∧ q ≠ r ∧ q ≠ b1 ∧ q ≠ b3 ∧ q ≠ b5 ∧ q ≠ b7 ∧ q ≠ b29 ∧ q ≠ bs36 ∧ q ≠ bn37 ∧ q ≠ b41 ∧ q ≠ b13 := fun q hq => by rcases hfr271 q hq with h | h; (have h1 := hFko q h; have h2 := lt40 q h; omega); omega
     have lt280 := VotT.lt ho270
     have rel282 : ∀ q, F269 q → F q ∨ w.heap.size ≤ q := fun q hq => by rcases hfr271 q hq with h | h; exact hFkr q h; exact .inr (by omega)
     have dis283 : ∀ q, F269 q → ¬ inA A q := fun q h1 h2 => by rcases hfr271 q h1 with h | h; exact dFA q h h2; (have h4 := ltjA q h2; omega)
     have dis284 : ∀ q, F269 q → ¬ inA A2 q := fun q h1 h2 => by rcases hfr271 q h1 with h | h; exact dFA2 q h h2; (have h4 := ltjA2 q h2; omega)
     have dis285 : ∀ q, F269 q → ¬ inA Ak q := fun q h1 h2 => by rcases hfr271 q h1 with h | h; exact (fun q h1 h2 => dAkF q h2 h1) q h h2; (have h4 := ltjAk q h2; omega)
     have dis286 : ∀ q, F269 q → ¬ G q := fun q h1 h2 => by rcases hfr271 q h1 with h | h; exact dFG q h h2; (have h4 := hGlt q h2; omega)
     refine GI_slit (E := 53) (zv := .agg #[nt 0, nt 0, nt 0]) (sz := 3) (by_ := 24) 50 1 #[(0, (Operand.tmp 73))] [.agg (Evt.cells (Evt.mk 1 (k : Int) (decE ts x (tallyT ((svcK ts (tot xs) now r1 ⟨s, r1, []⟩ k).s) (k : Int)) (tot xs) now))).toArray] (Evt.cells (Evt.mk 1 (k : Int) (decE ts x (tallyT ((svcK ts (tot xs) now r1 ⟨s, r1, []⟩ k).s) (k : Int)) (tot xs) now))) (some 74) (by kernel_rfl) (by kernel_rfl) K273 (by kernel_rfl) (by kernel_rfl) (by omega) rfl (by omega) (by intro v hv; obtain rfl := List.mem_singleton.1 hv; show (Evt.cells (Evt.mk 1 (k : Int) (decE ts x (tallyT ((svcK ts (tot xs) now r1 ⟨s, r1, []⟩ k).s) (k : Int)) (tot xs) now))).toArray.size = 3; simp [Evt.len]) (by kernel_rfl) (by show (Evt.cells (Evt.mk 1 (k : Int) (decE ts x (tallyT ((svcK ts (tot xs) now r1 ⟨s, r1, []⟩ k).s) (k : Int)) (tot xs) now))).toArray.toList ++ [] = _; simp) ?_
     intro b287 w287 e287 hb287 k287 z287 K288
     have hsz289 := Keep.size k287
     replace jr := jr.k0 k287
     replace jb1 := jb1.k0 k287
     replace jb3 := jb3.k0 k287
     replace jb5 := jb5.k0 k287
     replace jb7 := jb7.k0 k287
     replace jb29 := jb29.k0 k287
     replace jbs36 := jbs36.k0 k287
     replace jbn37 := jbn37.k0 k287
     replace jA := jA.keep0 k287
     replace jA2 := jA2.keep0 k287
     replace jAk := jAk.keep0 k287
     replace jhl := jhl.keep k287 nk
     replace jhK0 := jhK0.tn k287
     replace hfenb := hfenb.tn k287
     replace ho267 := ho267.keep k287 nk
     replace ho270 := ho270.keep k287 nk
     have hb287lt := hb287.lt
     refine GI_cellA 50 (.tmp 10) 0 (.slice Ak ((svcK ts (tot xs) now r1 ⟨s, r1, []⟩ k).out.length) capk) (some 67) (by kernel_rfl) (by kernel_rfl) K288 (by kernel_rfl) jb29 (m := 1) (by kernel_rfl) rfl <| GI_final 8 (by kernel_rfl) (by kernel_rfl) <| OI_append (t := 50) (at2 := 50) (E := 53) (E2 := 53) (sz := 3) (by_ := 24) (zv := .agg #[nt 0, nt 0, nt 0]) (m := ((svcK ts (tot xs) now r1 ⟨s, r1, []⟩ k).out).length) (k := 1) (.tmp 67) (.tmp 74) (.slice Ak ((svcK ts (tot xs) now r1 ⟨s, r1, []⟩ k).out.length) capk) (sl_ b287 0 1 1) (some 75) (by kernel_rfl) (by kernel_rfl) (by kernel_rfl) (by kernel_rfl) (by kernel_rfl) (by kernel_rfl) (by kernel_rfl) (SlT.slr jAk) (slr_one hb287 (Evt.len ((Evt.mk 1 (k : Int) (decE ts x (tallyT ((svcK ts (tot xs) now r1 ⟨s, r1, []⟩ k).s) (k : Int)) (tot xs) now))))) (Evt.one ((Evt.mk 1 (k : Int) (decE ts x (tallyT ((svcK ts (tot xs) now r1 ⟨s, r1, []⟩ k).s) (k : Int)) (tot xs) now)))) (by first | omega | (simp only [List.length_nil]; omega)) (by omega) (by first | omega | (simp only [List.length_nil]; omega)) (by omega) ?_
     intro vv9 w290 hap
     obtain ⟨A290, cap290, rfl, hA290, hk290, own290x⟩ := app_one (f := Evt.cells) (xs := ((svcK ts (tot xs) now r1 ⟨s, r1, []⟩ k).out)) (x := ((Evt.mk 1 (k : Int) (decE ts x (tallyT ((svcK ts (tot xs) now r1 ⟨s, r1, []⟩ k).s) (k : Int)) (tot xs) now)))) (A := Ak) (cap := capk) hap (fun x _ => Evt.len x) (Evt.len _)
     have own290 : ∀ q, inA A290 q → M1 ≤ q := fun q hq => by rcases own290x q hq with h | h; exact ownk q h; (show M1 ≤ q; omega)
     have hsz291 := Keep.size hk290
     replace jr := jr.keep hk290 (fun hs => by have h1 := ownk _ hs; have h2 := ltjAk _ hs; omega)
     replace jb1 := jb1.keep hk290 (fun hs => by have h1 := ownk _ hs; have h2 := ltjAk _ hs; omega)
     replace jb3 := jb3.keep hk290 (fun hs => by have h1 := ownk _ hs; have h2 := ltjAk _ hs; omega)
     replace jb5 := jb5.keep hk290 (fun hs => by have h1 := ownk _ hs; have h2 := ltjAk _ hs; omega)
     replace jb7 := jb7.keep hk290 (fun hs => by have h1 := ownk _ hs; have h2 := ltjAk _ hs; omega)
     replace jb29 := jb29.keep hk290 (fun hs => by have h1 := ownk _ hs; have h2 := ltjAk _ hs; omega)
     replace jbs36 := jbs36.keep hk290 (fun hs => by have h1 := ownk _ hs; have h2 := ltjAk _ hs; omega)
     replace jbn37 := jbn37.keep hk290 (fun hs => by have h1 := ownk _ hs; have h2 := ltjAk _ hs; omega)
     replace jA := jA.keep hk290 (fun q hq hs => by have g0 := hAr q hq; have g1 := ltjA q hq; have h1 := ownk q hs; have h2 := ltjAk q hs; omega)
     replace jA2 := jA2.keep hk290 (fun q hq hs => by have g0 := owA2 q hq; have g1 := ltjA2 q hq; have h1 := ownk q hs; have h2 := ltjAk q hs; omega)
     replace jhl := jhl.keep hk290 (fun q hq hs => (fun (q : Nat) (h1 : inA Ak q) (h2 : G q) => by have h3 := ownk q h1; have h4 := hGlt q h2; omega) q hs hq)
     replace jhK0 := Keep.fresh jhK0 hk290 (by intro i hi hs; first | exact hs | (exfalso; have h1 := ownk i hs; have h2 := ltjAk i hs; omega) | (have h1 := ownk i hs; have h2 := ltjAk i hs; show _ ∨ _; omega))
     replace hfenb := Keep.fresh hfenb hk290 (by intro i hi hs; have h1 := ownk i hs; have h2 := ltjAk i hs; show _ ∨ _; omega)
     replace ho267 := ho267.keep hk290 (fun q hq hs => (fun q h1 h2 => dis278 q h2 h1) q hs hq)
     replace ho270 := ho270.keep hk290 (fun q hq hs => (fun q h1 h2 => dis285 q h2 h1) q hs hq)
     have lt290 := SlT.lt hA290
     have dis292 : ∀ q, inA A290 q → ¬ G q := fun q h1 h2 => by rcases own290x q h1 with h | h; exact (fun (q : Nat) (h1 : G q) (h2 : inA Ak q) => by have h3 := ownk q h2; have h4 := hGlt q h1; omega) q h2 h; (have h4 := hGlt q h2; omega)
     have dis293 : ∀ q, inA A290 q → ¬ F266 q := fun q h1 h2 => by rcases own290x q h1 with h | h; exact dis278 q h2 h; (have h4 := lt275 q h2; omega)
     have dis294 : ∀ q, inA A290 q → ¬ F269 q := fun q h1 h2 => by rcases own290x q h1 with h | h; exact dis285 q h2 h; (have h4 := lt280 q h2; omega)
     refine St_ 0 (.slice A290 (((svcK ts (tot xs) now r1 ⟨s, r1, []⟩ k).out ++ [((Evt.mk 1 (k : Int) (decE ts x (tallyT ((svcK ts (tot xs) now r1 ⟨s, r1, []⟩ k).s) (k : Int)) (tot xs) now)))]).length) cap290) jb29 ?_
     intro w295 hb29_298 hk296 hz297
     replace hb29_298 : Blk w295 b29 [.slice A290 (((svcK ts (tot xs) now r1 ⟨s, r1, []⟩ k).out ++ [((Evt.mk 1 (k : Int) (decE ts x (tallyT ((svcK ts (tot xs) now r1 ⟨s, r1, []⟩ k).s) (k : Int)) (tot xs) now)))]).length) cap290] 50 := hb29_298
     have hsz299 := Keep.size hk296
     replace jr := jr.k1 hk296
     replace jb1 := jb1.k1 hk296
     replace jb3 := jb3.k1 hk296
     replace jb5 := jb5.k1 hk296
     replace jb7 := jb7.k1 hk296
     replace jbs36 := jbs36.k1 hk296
     replace jbn37 := jbn37.k1 hk296
     replace jA := jA.keep hk296 (fun q hq hs => by have hs : q = b29 := hs; have g0 := hAr q hq; have g1 := ltjA q hq; omega)
     replace jA2 := jA2.keep hk296 (fun q hq hs => by have hs : q = b29 := hs; have g0 := owA2 q hq; have g1 := ltjA2 q hq; omega)
     replace hA290 := hA290.keep hk296 (fun q hq hs => by have hs : q = b29 := hs; have g0 := own290 q hq; have g1 := lt290 q hq; omega)
     replace jhl := jhl.keep hk296 (fun q hq hs => by have hs : q = b29 := hs; have g0 := hlr q hq; have g1 := hGlt q hq; omega)
     replace jhK0 := Keep.fr jhK0 hk296
     replace hfenb := Keep.fresh hfenb hk296 (by intro i hi hs; have hs2 : i = b29 := hs; show _ ∨ _; omega)
     replace ho267 := ho267.keep hk296 (fun q hq hs => by have hs : q = b29 := hs; have g0 := own276 q hq; have g1 := lt275 q hq; omega)
     replace ho270 := ho270.keep hk296 (fun q hq hs => by have hs : q = b29 := hs; have g0 := own281 q hq; have g1 := lt280 q hq; omega)
     refine OI_end rfl <| X_block ?_
     have hq9 := hstp.trans (step_end hc49 hc182)
     rw [endR_set (by omega)] at ho267
     exact fun a _ => ⟨hfenb, A290, cap290, F266, F269, jr, jb1, jb3, jb5, jb7, jbs36, jbn37, jA, jA2, jhl, jhK0, by rw [hq9]; exact hb29_298, by rw [hq9]; exact hA290, by rw [hq9]; exact ho267, by rw [hq9]; exact ho270, own290, (fun q hq => by have h1 := own276 q hq; have h2 := lt275 q hq; omega), rel277, (fun q hq => by have h1 := own281 q hq; have h2 := lt280 q hq; omega), rel282, hdis272, dis279, dis286, dis284, dis283, dis293, dis294⟩
   refine V_skip <| X_block ?_
   have hq9 := hstp.trans (step_on hc49 hc182)
   exact fun a _ => ⟨hfenb, Ak, capk, H172, Fk, jr, jb1, jb3, jb5, jb7, jbs36, jbn37, jA, jA2, jhl, jhK0, by rw [hq9]; exact jb29, by rw [hq9]; exact jAk, by rw [hq9]; exact hR173, by rw [hq9]; exact jV, ownk, (fun q hq => by have h1 := own177 q hq; have h2 := lt176 q hq; omega), rel178, (fun q hq => by have h1 := hFko q hq; have h2 := lt40 q hq; omega), hFkr, dis181, dis180, dFG, dFA2, dFA, (fun q h1 h2 => dis179 q h2 h1), dAkF⟩
 ·
  intro D M1 W hD hM ⟨Ak, capk, Hk, Fk, jr, jb1, jb3, jb5, jb7, jbs36, jbn37, jA, jA2, jhl, jhK0, jb29, jAk, jR, jV, ownk, hHko, hHkr, hFko, hFkr, dHF, dHG, dFG, dFA2, dFA, dAkH, dAkF⟩ hDD
  have hzjhK0 := Keep.size jhK0
  have hrlt := jr.lt
  have hb1lt := jb1.lt
  have hb3lt := jb3.lt
  have hb5lt := jb5.lt
  have hb7lt := jb7.lt
  have hb29lt := jb29.lt
  have hbs36lt := jbs36.lt
  have hbn37lt := jbn37.lt
  have ltjA := SlT.lt jA
  have ltjA2 := SlT.lt jA2
  have ltjAk := SlT.lt jAk
  have lt300 := Rfr.lt jR
  have lt301 := VotT.lt jV
  refine X_block <| X_then <| Vr <| Lr 0 (.slice Ak ((svcK ts (tot xs) now r1 ⟨s, r1, []⟩ r1.length).out.length) capk) jb29 <| Ose [(8, .slice Ak ((svcK ts (tot xs) now r1 ⟨s, r1, []⟩ r1.length).out.length) capk)] <| V_ret ?_
  have hfin : svcQ ts xs s rs now = svcK ts (tot xs) now r1 ⟨s, r1, []⟩ r1.length := by unfold svcQ; rw [← hr1, hr1l]
  exact leave1 (.slice Ak (svcK ts (tot xs) now r1 ⟨s, r1, []⟩ r1.length).out.length capk) (.inl rfl) hDD (fun w' hk => ⟨res_tmps rfl, ⟨Ak, capk, by rw [hfin], by rw [hfin]; exact SlT.quiet jAk hk, (fun q h => by have h1 := ownk q h; omega), ⟨Hk, Fk, by rw [hfin]; exact Rfr.quiet jR hk, by rw [hfin]; exact VotT.quiet jV hk, hHkr, hFkr, dHF, dAkH, dAkF⟩, Keep.quiet jhK0 hk (by omega)⟩⟩)
end Go.Al

namespace Go.Al
open Go Go.RowKit Go.Proofs
theorem r4In_spec (n lo hi : Int) (w : World) : Calls Tryz.prog 168 #[nt n, nt lo, nt hi] w fun e w' => e = .returned (.bool (decide (lo ≤ n ∧ n ≤ hi))) ∧ w' = w := by
 refine eV ?_
 refine Vr <| On 1 [0, 1, 2] <| Oer <| On 4 [0, 2, 10] ?_
 by_cases hg1 : n ≥ lo
 ·
  exact Dt 10 hg1 <| Oen [6] <| Rr (.bool (decide (n ≤ hi))) ⟨by congr 2; simp only [Bool.decide_and]; by_cases h1 : lo ≤ n <;> simp [h1] <;> omega, rfl⟩
 exact Df 10 hg1 <| Oen [6] <| Rr (.bool false) ⟨by congr 2; simp only [Bool.decide_and]; by_cases h1 : lo ≤ n <;> simp [h1] <;> omega, rfl⟩
theorem r10In_spec (n lo hi : Int) (w : World) : Calls Tryz.prog 118 #[nt n, nt lo, nt hi] w fun e w' => e = .returned (.bool (decide (lo ≤ n ∧ n ≤ hi))) ∧ w' = w := by
 refine eV ?_
 refine Vr <| On 1 [0, 1, 2] <| Oer <| On 4 [0, 2, 10] ?_
 by_cases hg1 : n ≥ lo
 ·
  exact Dt 10 hg1 <| Oen [6] <| Rr (.bool (decide (n ≤ hi))) ⟨by congr 2; simp only [Bool.decide_and]; by_cases h1 : lo ≤ n <;> simp [h1] <;> omega, rfl⟩
 exact Df 10 hg1 <| Oen [6] <| Rr (.bool false) ⟨by congr 2; simp only [Bool.decide_and]; by_cases h1 : lo ≤ n <;> simp [h1] <;> omega, rfl⟩
theorem r4Is_spec (c : Crv) (w : World) : Calls Tryz.prog 119 #[.agg c.cells.toArray] w fun e w' => e = .returned (.bool (decide (okCrv c))) ∧ Keep none_ w w' := by
 have hK0 : Keep none_ w w := Keep.refl _ _
 have hzhK0 := Keep.size hK0
 refine eV ?_
 refine Vr <| OI_box 25 (.tmp 0) (.agg (Crv.cells c).toArray) (Crv.cells c) (some 1) (by kernel_rfl) (by kernel_rfl) rfl ?_
 intro b1 w1 e1 hb1 k1 z1
 have hsz2 := Keep.size k1
 replace hK0 := hK0.tn k1
 have hb1lt := hb1.lt
 refine On 2 [1] <| Oe <| V_seq <| Vr <| On 1 [1, 3] <| Lr 0 (nt c.k) hb1 <| Oe <| V_block <| Vn [1, 4, 5] <| Vi (c.k = 1) (fun hc3 => ?_) (fun hc3 => ?_)
 ·
  refine Vr <| On 1 [1, 7] <| Lr 1 (nt c.a) hb1 <| Kq (r4In_spec c.a 0 1000000000 _) <| On 4 [1, 10] ?_
  by_cases hg7 : (0 : Int) ≤ c.a ∧ c.a ≤ 1000000000
  ·
   refine Dt 10 hg7 <| On 5 [1, 10, 11] <| Lr 2 (nt c.b) hb1 <| On 7 [1, 10, 12, 13] <| Lr 1 (nt c.a) hb1 <| Kq (r4In_spec c.b 0 c.a _) <| On 11 [1, 17] ?_
   by_cases hg11 : (0 : Int) ≤ c.b ∧ c.b ≤ c.a
   ·
    refine Dt 17 hg11 <| On 12 [1, 17, 18] <| Lr 3 (nt c.c) hb1 <| Kq (r4In_spec c.c 1 1000000000 _) <| On 16 [1, 22] ?_
    by_cases hg15 : (1 : Int) ≤ c.c ∧ c.c ≤ 1000000000
    ·
     exact Dt 22 hg15 <| On 17 [22, 23] <| Lr 4 (nt c.d) hb1 <| Oen [2] <| V_ret <| X_ret_block <| X_ret_then <| Xr (.bool (decide (c.d = 0))) ⟨by congr 2; first | (apply Eq.symm; (try simp only [decide_eq_true_eq]); (try simp only [decide_eq_false_iff_not]); unfold okCrv fallsC; simp_all <;> omega) | (rw [decide_eq_decide]; unfold okCrv fallsC; simp_all <;> omega), hK0⟩
    exact Df 22 hg15 <| Oen [2] <| V_ret <| X_ret_block <| X_ret_then <| Xr (.bool false) ⟨by congr 2; first | (apply Eq.symm; (try simp only [decide_eq_true_eq]); (try simp only [decide_eq_false_iff_not]); unfold okCrv fallsC; simp_all <;> omega) | (rw [decide_eq_decide]; unfold okCrv fallsC; simp_all <;> omega), hK0⟩
   exact Df 17 hg11 <| Oen [2] <| V_ret <| X_ret_block <| X_ret_then <| Xr (.bool false) ⟨by congr 2; first | (apply Eq.symm; (try simp only [decide_eq_true_eq]); (try simp only [decide_eq_false_iff_not]); unfold okCrv fallsC; simp_all <;> omega) | (rw [decide_eq_decide]; unfold okCrv fallsC; simp_all <;> omega), hK0⟩
  exact Df 10 hg7 <| Oen [2] <| V_ret <| X_ret_block <| X_ret_then <| Xr (.bool false) ⟨by congr 2; first | (apply Eq.symm; (try simp only [decide_eq_true_eq]); (try simp only [decide_eq_false_iff_not]); unfold okCrv fallsC; simp_all <;> omega) | (rw [decide_eq_decide]; unfold okCrv fallsC; simp_all <;> omega), hK0⟩
 refine Vn [1, 4, 27] <| Vi (c.k = 2) (fun hc16 => ?_) (fun hc16 => ?_)
 ·
  refine Vr <| On 1 [1, 29] <| Lr 1 (nt c.a) hb1 <| Kq (r4In_spec c.a 0 1000000000 _) <| On 4 [1, 32] ?_
  by_cases hg20 : (0 : Int) ≤ c.a ∧ c.a ≤ 1000000000
  ·
   refine Dt 32 hg20 <| On 5 [1, 32, 33] <| Lr 2 (nt c.b) hb1 <| On 7 [1, 32, 34, 35] <| Lr 1 (nt c.a) hb1 <| Kq (r4In_spec c.b 0 c.a _) <| On 11 [1, 39] ?_
   by_cases hg24 : (0 : Int) ≤ c.b ∧ c.b ≤ c.a
   ·
    refine Dt 39 hg24 <| On 12 [1, 39, 40] <| Lr 3 (nt c.c) hb1 <| Kq (r4In_spec c.c 1 1000000000 _) <| On 16 [1, 44] ?_
    by_cases hg28 : (1 : Int) ≤ c.c ∧ c.c ≤ 1000000000
    ·
     exact Dt 44 hg28 <| On 17 [44, 45] <| Lr 4 (nt c.d) hb1 <| Kq (r4In_spec c.d 1 1000000000 _) <| Oen [2] <| V_ret <| X_ret_block <| X_ret_then <| Xr (.bool (decide ((1 : Int) ≤ c.d ∧ c.d ≤ 1000000000))) ⟨by congr 2; first | (apply Eq.symm; (try simp only [decide_eq_true_eq]); (try simp only [decide_eq_false_iff_not]); unfold okCrv fallsC; simp_all <;> omega) | (rw [decide_eq_decide]; unfold okCrv fallsC; simp_all <;> omega), hK0⟩
    exact Df 44 hg28 <| Oen [2] <| V_ret <| X_ret_block <| X_ret_then <| Xr (.bool false) ⟨by congr 2; first | (apply Eq.symm; (try simp only [decide_eq_true_eq]); (try simp only [decide_eq_false_iff_not]); unfold okCrv fallsC; simp_all <;> omega) | (rw [decide_eq_decide]; unfold okCrv fallsC; simp_all <;> omega), hK0⟩
   exact Df 39 hg24 <| Oen [2] <| V_ret <| X_ret_block <| X_ret_then <| Xr (.bool false) ⟨by congr 2; first | (apply Eq.symm; (try simp only [decide_eq_true_eq]); (try simp only [decide_eq_false_iff_not]); unfold okCrv fallsC; simp_all <;> omega) | (rw [decide_eq_decide]; unfold okCrv fallsC; simp_all <;> omega), hK0⟩
  exact Df 32 hg20 <| Oen [2] <| V_ret <| X_ret_block <| X_ret_then <| Xr (.bool false) ⟨by congr 2; first | (apply Eq.symm; (try simp only [decide_eq_true_eq]); (try simp only [decide_eq_false_iff_not]); unfold okCrv fallsC; simp_all <;> omega) | (rw [decide_eq_decide]; unfold okCrv fallsC; simp_all <;> omega), hK0⟩
 refine Vn [1, 49] <| Vi (c.k = 3) (fun hc32 => ?_) (fun hc32 => ?_)
 ·
  refine Vr <| On 1 [1, 51] <| Lr 1 (nt c.a) hb1 <| Kq (r4In_spec c.a 0 1000000000 _) <| On 4 [1, 54] ?_
  by_cases hg36 : (0 : Int) ≤ c.a ∧ c.a ≤ 1000000000
  ·
   refine Dt 54 hg36 <| On 5 [1, 54, 55] <| Lr 2 (nt c.b) hb1 <| Kq (r4In_spec c.b 1 1000000000 _) <| On 9 [1, 59] ?_
   by_cases hg40 : (1 : Int) ≤ c.b ∧ c.b ≤ 1000000000
   ·
    refine Dt 59 hg40 <| On 10 [1, 59, 60] <| Lr 3 (nt c.c) hb1 <| Kq (r4In_spec c.c 0 1000000000 _) <| On 14 [1, 64] ?_
    by_cases hg44 : (0 : Int) ≤ c.c ∧ c.c ≤ 1000000000
    ·
     exact Dt 64 hg44 <| On 15 [64, 65] <| Lr 4 (nt c.d) hb1 <| Oen [2] <| V_ret <| X_ret_block <| X_ret_then <| Xr (.bool (decide (c.d = 0))) ⟨by congr 2; first | (apply Eq.symm; (try simp only [decide_eq_true_eq]); (try simp only [decide_eq_false_iff_not]); unfold okCrv fallsC; simp_all <;> omega) | (rw [decide_eq_decide]; unfold okCrv fallsC; simp_all <;> omega), hK0⟩
    exact Df 64 hg44 <| Oen [2] <| V_ret <| X_ret_block <| X_ret_then <| Xr (.bool false) ⟨by congr 2; first | (apply Eq.symm; (try simp only [decide_eq_true_eq]); (try simp only [decide_eq_false_iff_not]); unfold okCrv fallsC; simp_all <;> omega) | (rw [decide_eq_decide]; unfold okCrv fallsC; simp_all <;> omega), hK0⟩
   exact Df 59 hg40 <| Oen [2] <| V_ret <| X_ret_block <| X_ret_then <| Xr (.bool false) ⟨by congr 2; first | (apply Eq.symm; (try simp only [decide_eq_true_eq]); (try simp only [decide_eq_false_iff_not]); unfold okCrv fallsC; simp_all <;> omega) | (rw [decide_eq_decide]; unfold okCrv fallsC; simp_all <;> omega), hK0⟩
  exact Df 54 hg36 <| Oen [2] <| V_ret <| X_ret_block <| X_ret_then <| Xr (.bool false) ⟨by congr 2; first | (apply Eq.symm; (try simp only [decide_eq_true_eq]); (try simp only [decide_eq_false_iff_not]); unfold okCrv fallsC; simp_all <;> omega) | (rw [decide_eq_decide]; unfold okCrv fallsC; simp_all <;> omega), hK0⟩
 exact V_skip <| X_block <| X_then <| Vn [2] <| Rr (.bool false) ⟨by congr 2; first | (apply Eq.symm; (try simp only [decide_eq_true_eq]); (try simp only [decide_eq_false_iff_not]); unfold okCrv fallsC; simp_all <;> omega) | (rw [decide_eq_decide]; unfold okCrv fallsC; simp_all <;> omega), hK0⟩
theorem r10Is_spec (x : Trk) (w : World) : Calls Tryz.prog 78 #[.agg x.cells.toArray] w fun e w' => e = .returned (.bool (decide (okTrk x))) ∧ Keep none_ w w' := by
 have hK0 : Keep none_ w w := Keep.refl _ _
 have hzhK0 := Keep.size hK0
 refine eV ?_
 refine Vr <| OI_box 27 (.tmp 0) (.agg (Trk.cells x).toArray) (Trk.cells x) (some 1) (by kernel_rfl) (by kernel_rfl) rfl ?_
 intro b1 w1 e1 hb1 k1 z1
 have hsz2 := Keep.size k1
 replace hK0 := hK0.tn k1
 have hb1lt := hb1.lt
 refine On 2 [1] <| Oer <| On 1 [1, 3] <| Lr 0 (nt x.most) hb1 <| Kq (r10In_spec x.most 1 12 _) <| On 4 [1, 6] ?_
 by_cases hg6 : (1 : Int) ≤ x.most ∧ x.most ≤ 12
 ·
  refine Dt 6 hg6 <| On 5 [1, 6, 7] <| Lr 1 (nt x.deposit) hb1 <| Kq (r10In_spec x.deposit 0 1073741824 _) <| On 9 [1, 11] ?_
  by_cases hg10 : (0 : Int) ≤ x.deposit ∧ x.deposit ≤ 1073741824
  ·
   refine Dt 11 hg10 <| On 10 [1, 11, 12] <| Lr 16 (nt x.cap) hb1 <| Kq (r10In_spec x.cap 0 1073741824 _) <| On 14 [1, 16] ?_
   by_cases hg14 : (0 : Int) ≤ x.cap ∧ x.cap ≤ 1073741824
   ·
    refine Dt 16 hg14 <| On 15 [1, 16, 17] <| Lr 2 (nt x.prepare) hb1 <| Kq (r10In_spec x.prepare 0 1000 _) <| On 19 [1, 21] ?_
    by_cases hg18 : (0 : Int) ≤ x.prepare ∧ x.prepare ≤ 1000
    ·
     refine Dt 21 hg18 <| On 20 [1, 21, 22] <| Lr 4 (nt x.confirm) hb1 <| Kq (r10In_spec x.confirm 0 1000 _) <| On 24 [1, 26] ?_
     by_cases hg22 : (0 : Int) ≤ x.confirm ∧ x.confirm ≤ 1000
     ·
      refine Dt 26 hg22 <| On 25 [1, 26, 27] <| Lr 5 (nt x.enact) hb1 <| Kq (r10In_spec x.enact 0 1000 _) <| On 29 [1, 31] ?_
      by_cases hg26 : (0 : Int) ≤ x.enact ∧ x.enact ≤ 1000
      ·
       refine Dt 31 hg26 <| On 30 [1, 31, 32] <| Lr 3 (nt x.decision) hb1 <| Kq (r10In_spec x.decision 1 1000 _) <| On 34 [1, 36] ?_
       by_cases hg30 : (1 : Int) ≤ x.decision ∧ x.decision ≤ 1000
       ·
        refine Dt 36 hg30 <| On 35 [1, 36, 37] <| La 6 (Crv.cells x.app) 5 hb1 rfl rfl <| Kk (r4Is_spec x.app _) fun w31 hk32 _ => ?_
        replace hb1 := hb1.k0 hk32
        replace hK0 := hK0.tn hk32
        refine On 39 [1, 41] ?_
        by_cases hg34 : okCrv x.app
        ·
         refine Dt 41 hg34 <| On 40 [1, 41, 42] <| La 11 (Crv.cells x.sup) 5 hb1 rfl rfl <| Kk (r4Is_spec x.sup _) fun w35 hk36 _ => ?_
         replace hb1 := hb1.k0 hk36
         replace hK0 := hK0.tn hk36
         refine On 44 [1, 46] ?_
         by_cases hg38 : okCrv x.sup
         ·
          exact Dt 46 hg38 <| On 45 [46, 47] <| Lr 17 (nt x.rank) hb1 <| Kq (r10In_spec x.rank 0 2 _) <| Oen [2] <| Rr (.bool (decide ((0 : Int) ≤ x.rank ∧ x.rank ≤ 2))) ⟨by congr 2; first | (apply Eq.symm; (try simp only [decide_eq_true_eq]); (try simp only [decide_eq_false_iff_not]); unfold okTrk; simp_all <;> omega) | (rw [decide_eq_decide]; unfold okTrk; simp_all <;> omega), hK0⟩
         exact Df 46 hg38 <| Oen [2] <| Rr (.bool false) ⟨by congr 2; first | (apply Eq.symm; (try simp only [decide_eq_true_eq]); (try simp only [decide_eq_false_iff_not]); unfold okTrk; simp_all <;> omega) | (rw [decide_eq_decide]; unfold okTrk; simp_all <;> omega), hK0⟩
        exact Df 41 hg34 <| Oen [2] <| Rr (.bool false) ⟨by congr 2; first | (apply Eq.symm; (try simp only [decide_eq_true_eq]); (try simp only [decide_eq_false_iff_not]); unfold okTrk; simp_all <;> omega) | (rw [decide_eq_decide]; unfold okTrk; simp_all <;> omega), hK0⟩
       exact Df 36 hg30 <| Oen [2] <| Rr (.bool false) ⟨by congr 2; first | (apply Eq.symm; (try simp only [decide_eq_true_eq]); (try simp only [decide_eq_false_iff_not]); unfold okTrk; simp_all <;> omega) | (rw [decide_eq_decide]; unfold okTrk; simp_all <;> omega), hK0⟩
      exact Df 31 hg26 <| Oen [2] <| Rr (.bool false) ⟨by congr 2; first | (apply Eq.symm; (try simp only [decide_eq_true_eq]); (try simp only [decide_eq_false_iff_not]); unfold okTrk; simp_all <;> omega) | (rw [decide_eq_decide]; unfold okTrk; simp_all <;> omega), hK0⟩
     exact Df 26 hg22 <| Oen [2] <| Rr (.bool false) ⟨by congr 2; first | (apply Eq.symm; (try simp only [decide_eq_true_eq]); (try simp only [decide_eq_false_iff_not]); unfold okTrk; simp_all <;> omega) | (rw [decide_eq_decide]; unfold okTrk; simp_all <;> omega), hK0⟩
    exact Df 21 hg18 <| Oen [2] <| Rr (.bool false) ⟨by congr 2; first | (apply Eq.symm; (try simp only [decide_eq_true_eq]); (try simp only [decide_eq_false_iff_not]); unfold okTrk; simp_all <;> omega) | (rw [decide_eq_decide]; unfold okTrk; simp_all <;> omega), hK0⟩
   exact Df 16 hg14 <| Oen [2] <| Rr (.bool false) ⟨by congr 2; first | (apply Eq.symm; (try simp only [decide_eq_true_eq]); (try simp only [decide_eq_false_iff_not]); unfold okTrk; simp_all <;> omega) | (rw [decide_eq_decide]; unfold okTrk; simp_all <;> omega), hK0⟩
  exact Df 11 hg10 <| Oen [2] <| Rr (.bool false) ⟨by congr 2; first | (apply Eq.symm; (try simp only [decide_eq_true_eq]); (try simp only [decide_eq_false_iff_not]); unfold okTrk; simp_all <;> omega) | (rw [decide_eq_decide]; unfold okTrk; simp_all <;> omega), hK0⟩
 exact Df 6 hg6 <| Oen [2] <| Rr (.bool false) ⟨by congr 2; first | (apply Eq.symm; (try simp only [decide_eq_true_eq]); (try simp only [decide_eq_false_iff_not]); unfold okTrk; simp_all <;> omega) | (rw [decide_eq_decide]; unfold okTrk; simp_all <;> omega), hK0⟩
def okTs (ts : List Trk) : Prop := 1 ≤ ts.length ∧ ts.length ≤ 4 ∧ ∀ t ∈ ts, okTrk t
instance (ts : List Trk) : Decidable (okTs ts) := by unfold okTs; infer_instance
theorem rbad_spec (x : Trk) (w : World) : Calls Tryz.prog 79 #[.agg x.cells.toArray] w fun e w' => e = .returned (.bool (!decide (okTrk x))) ∧ Keep none_ w w' := by
 have hK0 : Keep none_ w w := Keep.refl _ _
 have hzhK0 := Keep.size hK0
 refine eV ?_
 refine Vr <| OI_box 27 (.tmp 0) (.agg (Trk.cells x).toArray) (Trk.cells x) (some 1) (by kernel_rfl) (by kernel_rfl) rfl ?_
 intro b1 w1 e1 hb1 k1 z1
 have hsz2 := Keep.size k1
 replace hK0 := hK0.tn k1
 have hb1lt := hb1.lt
 refine On 2 [1] <| Oer <| La 0 (Trk.cells x) 18 hb1 (take_all (Trk.len _)) (Trk.len _) <| Kk (trkIs_spec x _) fun w3 hk4 _ => ?_
 replace hK0 := hK0.tn hk4
 exact Oen [2] <| Rr (.bool (!(decide (okTrk x)))) ⟨rfl, hK0⟩
theorem ixf_spec (A : Option Addr) (cap : Nat) (ts : List Trk) (w : World) (hA : SlT w 18 Trk.cells A cap ts) (hok : ∀ t ∈ ts, okTrk t) (hn4 : ts.length ≤ 4) : Calls Tryz.prog 122 #[.slice A ts.length cap, .func (.func 79) #[] #[]] w fun e w' => e = .returned (nt (-1)) ∧ Keep none_ w w' := by
 have hAlt := SlT.lt hA
 have hK0 : Keep none_ w w := Keep.refl _ _
 have hzhK0 := Keep.size hK0
 refine eV ?_
 refine Vr <| On 1 [0, 1] <| Oe <| V_seq <| Vn [0, 1, 7, 8] <| V_block <| Vp [(0, .slice A ts.length cap), (1, .func (.func 79) #[] #[]), (7, nt (ts.length : Int)), (8, nt 0)] <| V_loop (fun k wI e => ∃ i : Nat, (k + i = ts.length) ∧ Keep none_ w wI ∧ e = [(0, .slice A ts.length cap), (1, .func (.func 79) #[] #[]), (7, nt (ts.length : Int)), (8, nt (i : Int))]) ts.length ⟨0, rfl, Keep.refl _ _, rfl⟩ ?_
 rintro k2 w1 _ ⟨i, hki, hk3, rfl⟩
 have hsz4 := Keep.size hk3
 replace hA := hA.keep0 hk3
 replace hK0 := hK0.tn hk3
 have hzhk3 := Keep.size hk3
 refine Vn [0, 1, 7, 8, 9] <| V_seq <| Vi ((i : Int) < (ts.length : Int)) (fun hc5 => ?_) (fun hc5 => ?_)
 ·
  refine Vsk <| V_seq <| V_block <| Vr <| On 2 [0, 1, 5, 7, 8] <| Oer <| On 3 [0, 1, 5, 7, 8, 11, 12, 13] ?_
  obtain ⟨b6, o6, L6, T6, rfl, hat6⟩ := SlT.open_ hA (by first | omega | (simp only [List.length_map]; omega) | (simp; done) | (simp; omega))
  have hb6lt := hat6.blk.lt
  have hob7 := hAlt b6 ⟨_, rfl, rfl⟩
  refine Oi (b := b6) (o := o6) (len := ts.length) (cap := cap) (j := i) (some 14) 29 (.tmp 12) (.tmp 13) 27 18 144 .i64 ?_
  obtain ⟨x8, hx9⟩ : ∃ x, ts[i]? = some x := ⟨_, List.getElem?_eq_getElem (by first | omega | (simp only [List.length_map]; omega))⟩
  have hokx : okTrk x8 := hok x8 (List.mem_of_getElem? hx9)
  refine La (o6 + i * 18) (Trk.cells x8) 18 hat6.blk (At.elem' hat6 (es_at hx9)) (At.len hat6 (es_at hx9)) <| Kk (rbad_spec x8 _) fun w10 hk11 _ => ?_
  replace hk3 := hk3.tn hk11
  refine Oe <| Vp [(0, sl_ b6 o6 ts.length cap), (1, .func (.func 79) #[] #[]), (5, nt (i : Int)), (7, nt (ts.length : Int)), (8, nt (i : Int)), (16, .bool (!(decide (okTrk x8))))] <| Vq (u := .bool (!(decide (okTrk x8)))) (v := .bool false) 16 (by rw [decide_eq_true hokx]; rfl) <| Vf <| V_skip <| X_block <| X_then <| V_region ?_
  have hw14 : IntKind.i64.wrap ((i : Int) + 1) = ((i + 1 : Nat) : Int) := (wrap64_id (by omega) (by omega)).trans (by omega)
  refine On 1 [0, 1, 7, 18] <| Oq (u := nt (IntKind.i64.wrap ((i : Int) + 1))) (v := nt ((i + 1 : Nat) : Int)) 18 (by rw [hw14]) <| Os 2 [(0, sl_ b6 o6 ts.length cap), (1, .func (.func 79) #[] #[]), (7, nt (ts.length : Int)), (8, nt ((i + 1 : Nat) : Int))] <| OI_end rfl ?_
  exact V_again (k2 - 1) (by omega) [(0, sl_ b6 o6 ts.length cap), (1, .func (.func 79) #[] #[]), (7, nt (ts.length : Int)), (8, nt ((i + 1 : Nat) : Int))] rfl ⟨i + 1, by omega, hk3, rfl⟩
 exact V_exit <| X_exit_then <| X_exit_then <| X_exit_here <| X_then <| Vn [4] <| Rr (nt (-1)) ⟨rfl, hK0⟩
theorem ctf_spec (A : Option Addr) (cap : Nat) (ts : List Trk) (w : World) (hA : SlT w 18 Trk.cells A cap ts) (hok : ∀ t ∈ ts, okTrk t) (hn4 : ts.length ≤ 4) : Calls Tryz.prog 81 #[.slice A ts.length cap, .func (.func 79) #[] #[]] w (rk_ w (.bool false)) := by
 have hAlt := SlT.lt hA
 have hK0 : Keep none_ w w := Keep.refl _ _
 have hzhK0 := Keep.size hK0
 refine eV ?_
 refine Vr <| On 1 [0, 1] <| Oer <| On 2 [5, 6] <| Kk (ixf_spec A cap ts _ hA hok hn4) fun w1 hk2 _ => ?_
 replace hK0 := hK0.tn hk2
 exact Oen [4] <| Rr (.bool false) ⟨rfl, hK0⟩
theorem tclone_nil (w : World) : Calls Tryz.prog 82 #[.slice none 0 0] w fun e w' => e = .returned (.slice none 0 0) ∧ w' = w := by
 refine eV ?_
 refine Vr <| On 1 [0] <| Oe <| V_seq <| Vn [0, 4] <| Vo <| Vs [(2, .slice none 0 0)] <| Rt ?_
 exact X_return _ rfl ⟨rfl, rfl⟩
theorem tclone_at (b o cap : Nat) (L : List Value) (T : TypeId) (xs : List Trk) (w : World) (h : At w b o L T 18 cap (xs.map Trk.cells)) (hn : xs.length ≤ 1000000) : Calls Tryz.prog 82 #[sl_ b o xs.length cap] w fun e w' => ∃ A' cap', e = .returned (.slice A' xs.length cap') ∧ SlT w' 18 Trk.cells A' cap' xs ∧ Keep none_ w w' ∧ (∀ k, inA A' k → w.heap.size ≤ k) := by
 have hblt := h.blk.lt
 have hK0 : Keep none_ w w := Keep.refl _ _
 have hzhK0 := Keep.size hK0
 refine eV ?_
 refine Vr <| On 1 [0] <| Oe <| V_seq <| Vn [0, 4] <| Vf <| Vsk <| Vr <| OI_slit (E := 27) (zv := .agg #[nt 0, nt 0, nt 0, nt 0, nt 0, nt 0, nt 0, nt 0, nt 0, nt 0, nt 0, nt 0, nt 0, nt 0, nt 0, nt 0, nt 0, nt 0]) (sz := 18) (by_ := 144) 29 0 #[] [] [] (some 5) (by kernel_rfl) (by kernel_rfl) (by kernel_rfl) (by omega) rfl (by omega) (by intro v hv; cases hv) (by kernel_rfl) rfl ?_
 intro b1 w1 e1 hb1 k1 z1
 have hsz2 := Keep.size k1
 replace h := h.k0 k1
 replace hK0 := hK0.tn k1
 have hb1lt := hb1.lt
 refine Os 2 [(5, sl_ b1 0 0 0), (6, sl_ b o xs.length cap)] <| OI_append (t := 29) (at2 := 29) (E := 27) (E2 := 27) (sz := 18) (by_ := 144) (zv := .agg #[nt 0, nt 0, nt 0, nt 0, nt 0, nt 0, nt 0, nt 0, nt 0, nt 0, nt 0, nt 0, nt 0, nt 0, nt 0, nt 0, nt 0, nt 0]) (m := 0) (k := xs.length) (.tmp 5) (.tmp 6) (sl_ b1 0 0 0) (sl_ b o xs.length cap) (some 7) (by kernel_rfl) (by kernel_rfl) (by kernel_rfl) (by kernel_rfl) (by kernel_rfl) (by kernel_rfl) (by kernel_rfl) (SlT.slr (slt_blk (f := Trk.cells) (xs := []) hb1 Trk.len rfl)) (SlT.slr (At.slt h)) (one_flat Trk.one) (by omega) (by omega) (by omega) (by omega) ?_
 intro v w9 hap
 obtain ⟨A9, cap9, rfl, h9, hin⟩ := SlT.of (xs := xs) hap.holds (by omega) (by simp) (fun x _ => Trk.len x)
 have hk9 : Keep (only b1) w1 w9 := hap.keep
 have hown : ∀ k, inA A9 k → w.heap.size ≤ k := fun k hk => by rcases hap.own k (hin k hk) with h | h; (have h : k = b1 := h; omega); omega
 have hsz3 := Keep.size hk9
 replace hK0 := Keep.fr hK0 hk9
 refine Op_ [(7, .slice A9 (0 + xs.length) cap9)] <| Oq (u := .slice A9 (0 + xs.length) cap9) (v := .slice A9 xs.length cap9) 7 (by rw [Nat.zero_add]) <| Ose [(2, .slice A9 xs.length cap9)] <| V_ret ?_
 exact X_return _ rfl ⟨A9, cap9, rfl, h9, hK0, hown⟩
theorem tclone_spec (A : Option Addr) (cap : Nat) (xs : List Trk) (w : World) (hA : SlT w 18 Trk.cells A cap xs) (hn : xs.length ≤ 1000000) : Calls Tryz.prog 82 #[.slice A xs.length cap] w fun e w' => ∃ A' cap', e = .returned (.slice A' xs.length cap') ∧ SlT w' 18 Trk.cells A' cap' xs ∧ Keep none_ w w' ∧ (∀ k, inA A' k → w.heap.size ≤ k) := by
  rcases Nat.eq_zero_or_pos xs.length with h0 | h0
  · obtain rfl := List.length_eq_zero_iff.1 h0
    rcases hA with ⟨rfl, rfl, _⟩ | ⟨b, o, L, T, rfl, h1, h2, h3, h4, h5⟩
    · exact (tclone_nil w).mono (by rintro e w' ⟨rfl, rfl⟩; exact ⟨none, 0, rfl, SlT.nil _ _ _, Keep.refl _ _, fun k hk => (inA_none hk).elim⟩)
    · exact tclone_at b o cap L T [] w ⟨h1, h2, h3, h4, h5⟩ hn
  · obtain ⟨b, o, L, T, rfl, h⟩ := hA.open_ h0
    exact tclone_at b o cap L T xs w h hn
theorem rnw_spec (A : Option Addr) (cap : Nat) (ts : List Trk) (w : World) (hA : SlT w 18 Trk.cells A cap ts) (hok : okTs ts) : Calls Tryz.prog 35 #[.slice A ts.length cap] w fun e w' => ∃ r g H, e = .returned (.tuple #[pt r, nt 0]) ∧ Rfr H w' r g ts [] ∧ Keep none_ w w' ∧ (∀ q, H q → w.heap.size ≤ q) := by
 have hAlt := SlT.lt hA
 have hok1 := hok.1
 have hok2 := hok.2.1
 have hK0 : Keep none_ w w := Keep.refl _ _
 have hzhK0 := Keep.size hK0
 refine eV ?_
 refine Vr <| On 2 [0] <| Oer <| On 1 [0, 4] <| Oe <| V_seq <| Vr <| On 4 [0, 4, 8] <| Oq (u := .bool (decide ((ts.length : Int) = 0))) (v := .bool false) 8 (by rw [decide_eq_false (by omega : ¬ ((ts.length : Int) = 0))]) <| On 9 [0, 4, 13] <| Oq (u := .bool (decide ((ts.length : Int) > 4))) (v := .bool false) 13 (by rw [decide_eq_false (by omega : ¬ ((ts.length : Int) > 4))]) <| On 11 [0, 13, 14, 15] <| Kk (ctf_spec A cap ts _ hA hok.2.2 (by omega)) fun w3 hk4 _ => ?_
 replace hA := hA.keep0 hk4
 replace hK0 := hK0.tn hk4
 refine Oen [0, 17] <| Vf <| Vsk <| Vr <| On 1 [18] <| Kg (tclone_spec A cap ts _ hA (by omega)) ?_
 rintro _ w6 ⟨A8, cap8, rfl, hA8, hk7, ow8⟩
 refine ⟨_, rfl, ?_⟩
 have hsz9 := Keep.size hk7
 replace hK0 := hK0.tn hk7
 have lt8 := SlT.lt hA8
 refine Kg (GQ.new_grd _) ?_
 rintro _ w12 ⟨g14, F15, rfl, ho16, hk13, hge17⟩
 refine ⟨_, rfl, ?_⟩
 have hsz18 := Keep.size hk13
 replace hK0 := hK0.tn hk13
 have own19 : ∀ q, F15 q → w6.heap.size ≤ q := fun q hq => by have h1 := hge17 q hq; omega
 have lt20 := GQ.Grd.lt ho16
 have dis21 : ∀ q, F15 q → ¬ inA A q := fun q h1 h2 => by have h3 := hge17 q h1; have h4 := hAlt q h2; omega
 have dis22 : ∀ q, F15 q → ¬ inA A8 q := fun q h1 h2 => by have h3 := hge17 q h1; have h4 := lt8 q h2; omega
 have hg14lt : g14 < w12.heap.size := GQ.Grd.lt ho16 _ (GQ.Grd.at_ ho16)
 have hg14ge := hge17 _ (GQ.Grd.at_ ho16)
 refine On 4 [21] <| Bx 97 [.slice A8 ts.length cap8, pt g14] ?_
 intro b23 w23 e23 hb23 k23 z23
 have hsz24 := Keep.size k23
 replace hA8 := hA8.keep0 (hk13.tr k23)
 replace hK0 := hK0.tn k23
 replace ho16 := GQ.Grd.keep ho16 k23 nk
 have hb23lt := hb23.lt
 refine Ose [(2, pt b23), (3, nt 0)] <| V_ret ?_
 exact X_return _ rfl ⟨b23, g14, (fun q => F15 q ∨ inA A8 q ∨ q = b23), rfl, ⟨⟨by omega, hok.2.2, by simp, fun x hx => by cases hx⟩, fun q hq => by rcases hq with h | h | h; (have h1 := lt20 q h; omega); (have h1 := lt8 q h; omega); omega, F15, A8, cap8, ⟨hb23, hA8, ho16, (fun q h1 h2 => dis22 q h2 h1), (fun q h => by have h1 := ow8 q h; have h2 := lt8 q h; omega), (fun q h => by have h1 := lt20 q h; omega)⟩, .inr (.inr rfl), fun q h => .inl h, fun q h => .inr (.inl h)⟩, hK0, fun q hq => by rcases hq with h | h | h; (have h1 := own19 q h; omega); (have h1 := ow8 q h; omega); omega⟩
end Go.Al

namespace Go.Al
open Go Go.RowKit Go.Proofs
theorem rnew6_weak (A : Option Addr) (cap : Nat) (fs : List Int) (w : World) (hA0 : ArgT w 1 intc A cap fs) (hn : fs.length ≤ 100000) : Calls Tryz.prog 39 #[.slice A fs.length cap] w fun e w' => ∃ pv n, e = .returned (.tuple #[.pointer pv, nt n]) ∧ Keep none_ w w' := by
 have hA := hA0
 have hK0 : Keep none_ w w := Keep.refl _ _
 have hzhK0 := Keep.size hK0
 refine eV ?_
 refine Vr <| On 2 [0] <| Oe <| V_seq <| Vn [0, 9] <| Vi ((fs.length : Int) > 10) (fun hc1 => ?_) (fun hc1 => ?_)
 ·
  exact Vn [2, 3] <| Rt <| Xr (.tuple #[.pointer none, nt 1]) ⟨_, _, rfl, hK0⟩
 refine Vsk <| Vr <| OI_make (E := 171) (sz := 3) (by_ := 40) (m := 10) (kd := .i64) (zv := .agg #[nt 0, nt 0, .slice none 0 0]) 166 (.const (Value.int IntKind.i64 10)) (.const (Value.int IntKind.i64 10)) ((List.replicate 10 [nt 0, nt 0, .slice none 0 0]).flatten) (some 10) (by kernel_rfl) (by kernel_rfl) (by kernel_rfl) (by kernel_rfl) (by kernel_rfl) (by decide) (by decide) (by kernel_rfl) ?_
 intro b2 w2 e2 hb2 k2 z2
 have hsz3 := Keep.size k2
 replace hA := ArgT.keep0 hA k2
 replace hK0 := hK0.tn k2
 have hb2lt := hb2.lt
 refine On 2 [0, 11] <| Bx 168 [sl_ b2 0 10 10] ?_
 intro b4 w4 e4 hb4 k4 z4
 have hsz5 := Keep.size k4
 replace hb2 := hb2.k0 k4
 replace hA := ArgT.keep0 hA k4
 replace hK0 := hK0.tn k4
 have hb4lt := hb4.lt
 refine On 4 [0, 4] <| Oer <| On 1 [0, 4, 5] <| Oe <| V_seq <| Vn [0, 4, 5, 6] <| V_block <| Vp [(0, .slice A fs.length cap), (4, pt b4), (5, nt 0), (6, nt 0)] <| V_loop (fun k wI e => ∃ i : Nat, ∃ s5 : Int, ∃ Lx : List Value, (k + i = fs.length) ∧ (Blk wI b2 Lx 171) ∧ (Lx.length = 30) ∧ Keep (only b2) w4 wI ∧ e = [(0, .slice A fs.length cap), (4, pt b4), (5, nt s5), (6, nt (i : Int))]) fs.length ⟨0, 0, (List.replicate 10 [nt 0, nt 0, .slice none 0 0]).flatten, by omega, hb2, by decide, Keep.refl _ _, rfl⟩ ?_
 rintro k7 w6 _ ⟨i, s5, Lx, hki, hB, hLx, hk8, rfl⟩
 have hsz9 := Keep.size hk8
 replace hb4 := hb4.k1 hk8
 replace hA := ArgT.keep hA hk8 hA0 (fun k hk hs => by have hs : k = b2 := hs; omega)
 replace hK0 := Keep.fr hK0 hk8
 have hzhk8 := Keep.size hk8
 have hb2lt := hB.lt
 refine V_seq <| Vn [0, 4, 5, 6, 16] <| Vi ((i : Int) < (fs.length : Int)) (fun hc10 => ?_) (fun hc10 => ?_)
 ·
  refine Vsk <| V_seq <| V_block <| V_seq <| Vr <| On 2 [0, 4, 5, 6, 19, 20] ?_
  obtain ⟨b11, o11, L11, rfl, hat11⟩ := ArgT.open_ hA (by first | omega | (simp only [List.length_map]; omega) | (simp; done) | (simp; omega))
  have hb11lt0 := ArgT.lt hA0 (by first | omega | (simp only [List.length_map]; omega) | (simp; done) | (simp; omega))
  have hb11lt := hat11.blk.lt
  refine Oi (b := b11) (o := o11) (len := fs.length) (cap := cap) (j := i) (some 21) 72 (.tmp 19) (.tmp 20) 3 1 8 .i64 ?_
  obtain ⟨x12, hx13⟩ : ∃ x, fs[i]? = some x := ⟨_, List.getElem?_eq_getElem (by first | omega | (simp only [List.length_map]; omega))⟩
  refine OI_cellR 3 (.tmp 21) (o11 + i * 1) (nt x12) (some 22) (by kernel_rfl) (by kernel_rfl) hat11.blk (m := 1) (by kernel_rfl) (AtR.cell0 hat11 (es_at hx13) rfl) <| On 6 [0, 4, 5, 6, 24] ?_
  by_cases hg14 : x12 < 0
  ·
   exact Dt 24 hg14 <| Oen [0, 4, 5, 6, 25, 26, 27, 28, 29, 30] <| Vo <| Vn [2, 3] <| Rt <| X_ret_block <| X_ret_then <| X_ret_then <| X_ret_block <| X_ret_then <| Xr (.tuple #[.pointer none, nt 1]) ⟨_, _, rfl, hK0⟩
  refine Df 24 hg14 <| On 8 [0, 4, 5, 6, 24, 25, 26] <| Oi (b := b11) (o := o11) (len := fs.length) (cap := cap) (j := i) (some 27) 72 (.tmp 25) (.tmp 26) 3 1 8 .i64 <| OI_cellR 3 (.tmp 27) (o11 + i * 1) (nt x12) (some 28) (by kernel_rfl) (by kernel_rfl) hat11.blk (m := 1) (by kernel_rfl) (AtR.cell0 hat11 (es_at hx13) rfl) <| Oen [0, 4, 5, 6, 25, 26, 27, 28, 29, 30] <| Vi (x12 > 1073741824) (fun hc15 => ?_) (fun hc15 => ?_)
  ·
   exact Vn [2, 3] <| Rt <| X_ret_block <| X_ret_then <| X_ret_then <| X_ret_block <| X_ret_then <| Xr (.tuple #[.pointer none, nt 1]) ⟨_, _, rfl, hK0⟩
  refine Vsk <| V_seq <| Vd1 (acts [11]) (only b2) [0, 1, 2, 3, 4, 5, 6, 7, 8, 9, 10, 11] fun w17 hk16 he18 K21 _ => ?_
  replace hB := hB.k0 hk16
  replace hb4 := hb4.k0 hk16
  replace hat11 := hat11.keep hk16 id
  replace hk8 := hk8.tn hk16
  have qhb4 := hb4
  have qhat11 := hat11
  refine Gn [3, 4, 5, 6, 7, 8, 9, 10, 11] [0, 4, 5, 6, 25, 26, 27, 28, 29, 33] <| Mc 0 (sl_ b2 0 10 10) qhb4 (by show ¬ (_ = _); omega) rfl <| Gs [7, 8, 9, 10, 11] [(0, sl_ b11 o11 fs.length cap), (4, pt b4), (5, nt s5), (6, nt (i : Int)), (25, sl_ b11 o11 fs.length cap), (26, nt (i : Int)), (27, .pointer (some ⟨b11, o11 + i * 1, none⟩)), (28, nt x12), (29, .bool (decide (x12 > 1073741824))), (34, sl_ b2 0 10 10), (35, nt (i : Int)), (36, sl_ b11 o11 fs.length cap), (37, nt (i : Int))] <| GI_pure (some 38) (.indexAddr 72 (.tmp 36) (.tmp 37)) (by kernel_rfl) (by kernel_rfl) (pure_idxN (b := b11) (o := o11) (len := fs.length) (cap := cap) (kd := .i64) (j := i) (E := 3) (sz := 1) (by_ := 8) (by kernel_rfl) (by kernel_rfl) (by kernel_rfl) (by omega)) <| GI_cellR 3 (.tmp 38) (o11 + i * 1) (nt x12) (some 39) (by kernel_rfl) (by kernel_rfl) (by kernel_rfl) qhat11.blk (by show ¬ (_ = _); omega) (m := 1) (by kernel_rfl) (AtR.cell0 qhat11 (es_at hx13) rfl) <| GI_pure (some 40) (.indexAddr 166 (.tmp 34) (.tmp 35)) (by kernel_rfl) (by kernel_rfl) (pure_idxN (b := b2) (o := 0) (len := 10) (cap := 10) (kd := .i64) (j := i) (E := 171) (sz := 3) (by_ := 40) (by kernel_rfl) (by kernel_rfl) (by kernel_rfl) (by omega)) <| Gn [11] [0, 4, 5, 6, 25, 26, 27, 28, 29, 39, 41] <| GI_final 11 (by kernel_rfl) (by kernel_rfl) <| OI_set (m := 1) (kd := false) 3 (.tmp 41) (.tmp 39) (0 + i * 3) (nt x12) [nt x12] none (by kernel_rfl) (by kernel_rfl) (by kernel_rfl) hB (by kernel_rfl) (by kernel_rfl) (by kernel_rfl) (by rw [hLx]; show 0 + i * 3 + 1 ≤ 30; omega) (by simp [Value.oneCell']) ?_
  intro w22 hb2_25 hk23 hz24
  replace hb2_25 : Blk w22 b2 (over Lx (0 + i * 3) [nt x12]) 171 := hb2_25
  have hsz26 := Keep.size hk23
  replace hat11 := hat11.keep hk23 (by show ¬ (_ = _); omega)
  replace hk8 := Keep.fr hk8 hk23
  refine Oe <| V_region <| On 3 [0, 4, 6, 25, 26, 27, 28, 29, 42, 43, 44] <| Oi (b := b11) (o := o11) (len := fs.length) (cap := cap) (j := i) (some 45) 72 (.tmp 43) (.tmp 44) 3 1 8 .i64 <| OI_cellR 3 (.tmp 45) (o11 + i * 1) (nt x12) (some 46) (by kernel_rfl) (by kernel_rfl) hat11.blk (m := 1) (by kernel_rfl) (AtR.cell0 hat11 (es_at hx13) rfl) <| On 7 [0, 4, 5, 6, 25, 26, 27, 28, 29] <| OI_end rfl <| X_block <| X_then <| V_region ?_
  have hw27 : IntKind.i64.wrap ((i : Int) + 1) = ((i + 1 : Nat) : Int) := (wrap64_id (by omega) (by omega)).trans (by omega)
  refine On 2 [0, 4, 5, 18, 25, 26, 27, 28, 29] <| Oq (u := nt (IntKind.i64.wrap ((i : Int) + 1))) (v := nt ((i + 1 : Nat) : Int)) 18 (by rw [hw27]) <| Os 3 [(0, sl_ b11 o11 fs.length cap), (4, pt b4), (5, nt (IntKind.i64.wrap (s5 + x12))), (6, nt ((i + 1 : Nat) : Int)), (25, sl_ b11 o11 fs.length cap), (26, nt (i : Int)), (27, .pointer (some ⟨b11, o11 + i * 1, none⟩)), (28, nt x12), (29, .bool (decide (x12 > 1073741824)))] <| OI_end rfl ?_
  exact V_again (k7 - 1) (by omega) [(0, sl_ b11 o11 fs.length cap), (4, pt b4), (5, nt (IntKind.i64.wrap (s5 + x12))), (6, nt ((i + 1 : Nat) : Int))] rfl ⟨i + 1, IntKind.i64.wrap (s5 + x12), (over Lx (0 + i * 3) [nt x12]), by omega, hb2_25, by rw [over_length (by rw [hLx]; show 0 + i * 3 + 1 ≤ 30; omega)]; exact hLx, hk8, rfl⟩
 refine V_exit <| X_exit_then <| X_exit_then <| X_exit_here <| X_then <| V_seq <| Vn [4, 49] <| Vi (s5 > 1073741824) (fun hc28 => ?_) (fun hc28 => ?_)
 ·
  exact Vn [2, 3] <| Rt <| Xr (.tuple #[.pointer none, nt 1]) ⟨_, _, rfl, hK0⟩
 exact Vsk <| Vn [2, 3] <| Rr (.tuple #[pt b4, nt 0]) ⟨_, _, rfl, hK0⟩
theorem rnew11_weak (w : World) : Calls Tryz.prog 40 #[] w fun e w' => ∃ pv, e = .returned (.pointer pv) ∧ Keep none_ w w' := by
 have hK0 : Keep none_ w w := Keep.refl _ _
 have hzhK0 := Keep.size hK0
 refine eV ?_
 refine Vs [] <| V_seq <| V_draws (acts [0, 1, 3]) none_ [[0, 1, 2, 3, 4], [1, 0, 2, 3, 4]] (by kernel_rfl) (by repeat first | exact sure_body (by rintro _ _ ⟨_, h, _⟩; exact ⟨_, h⟩) | refine sure_then ?_ | refine sure_block ?_ | refine sure_join ?_) (by kernel_rfl) ?_
 intro w2 hk1 he3 L hL4
 have hsz5 := Keep.size hk1
 replace hK0 := hK0.tn hk1
 have K6 : Keep none_ w2 w2 := Keep.refl _ _
 simp only [List.mem_cons, List.not_mem_nil, or_false] at hL4
 rcases hL4 with rfl | rfl
 ·
  refine GI_make (E := 222) (sz := 7) (by_ := 56) (m := 12) (kd := .i64) (zv := .agg #[.bool false, nt 0, nt 0, nt 0, nt 0, nt 0, nt 0]) 172 (.const (Value.int IntKind.i64 12)) (.const (Value.int IntKind.i64 12)) ((List.replicate 12 [.bool false, nt 0, nt 0, nt 0, nt 0, nt 0, nt 0]).flatten) (some 1) (by kernel_rfl) (by kernel_rfl) K6 (by kernel_rfl) (by kernel_rfl) (by kernel_rfl) (by kernel_rfl) (by decide) (by decide) (by kernel_rfl) ?_
  intro b7 w7 e7 hb7 k7 z7 K8
  have hsz9 := Keep.size k7
  replace hK0 := hK0.tn k7
  have hb7lt := hb7.lt
  refine GI_make (E := 228) (sz := 9) (by_ := 88) (m := 40) (kd := .i64) (zv := .agg #[.slice none 0 0, .bool false, nt 0, nt 0, nt 0, nt 0, nt 0, nt 0, nt 0]) 173 (.const (Value.int IntKind.i64 40)) (.const (Value.int IntKind.i64 40)) ((List.replicate 40 [.slice none 0 0, .bool false, nt 0, nt 0, nt 0, nt 0, nt 0, nt 0, nt 0]).flatten) (some 2) (by kernel_rfl) (by kernel_rfl) K8 (by kernel_rfl) (by kernel_rfl) (by kernel_rfl) (by kernel_rfl) (by decide) (by decide) (by kernel_rfl) ?_
  intro b10 w10 e10 hb10 k10 z10 K11
  have hsz12 := Keep.size k10
  replace hK0 := hK0.tn k10
  have hb10lt := hb10.lt
  refine Gn [3, 4] [3] <| GI_box 175 (.tmp 3) (.agg #[sl_ b7 0 12 12, sl_ b10 0 40 40]) [sl_ b7 0 12 12, sl_ b10 0 40 40] (some 4) (by kernel_rfl) (by kernel_rfl) K11 (by kernel_rfl) (by kernel_rfl) ?_
  intro b13 w13 e13 hb13 k13 z13 K14
  have hsz15 := Keep.size k13
  replace hK0 := hK0.tn k13
  have hb13lt := hb13.lt
  refine Gs [] [(0, pt b13)] <| GI_end <| X_then <| V_ret ?_
  exact X_return _ rfl ⟨_, rfl, hK0⟩
 ·
  refine GI_make (E := 228) (sz := 9) (by_ := 88) (m := 40) (kd := .i64) (zv := .agg #[.slice none 0 0, .bool false, nt 0, nt 0, nt 0, nt 0, nt 0, nt 0, nt 0]) 173 (.const (Value.int IntKind.i64 40)) (.const (Value.int IntKind.i64 40)) ((List.replicate 40 [.slice none 0 0, .bool false, nt 0, nt 0, nt 0, nt 0, nt 0, nt 0, nt 0]).flatten) (some 2) (by kernel_rfl) (by kernel_rfl) K6 (by kernel_rfl) (by kernel_rfl) (by kernel_rfl) (by kernel_rfl) (by decide) (by decide) (by kernel_rfl) ?_
  intro b16 w16 e16 hb16 k16 z16 K17
  have hsz18 := Keep.size k16
  replace hK0 := hK0.tn k16
  have hb16lt := hb16.lt
  refine GI_make (E := 222) (sz := 7) (by_ := 56) (m := 12) (kd := .i64) (zv := .agg #[.bool false, nt 0, nt 0, nt 0, nt 0, nt 0, nt 0]) 172 (.const (Value.int IntKind.i64 12)) (.const (Value.int IntKind.i64 12)) ((List.replicate 12 [.bool false, nt 0, nt 0, nt 0, nt 0, nt 0, nt 0]).flatten) (some 1) (by kernel_rfl) (by kernel_rfl) K17 (by kernel_rfl) (by kernel_rfl) (by kernel_rfl) (by kernel_rfl) (by decide) (by decide) (by kernel_rfl) ?_
  intro b19 w19 e19 hb19 k19 z19 K20
  have hsz21 := Keep.size k19
  replace hK0 := hK0.tn k19
  have hb19lt := hb19.lt
  refine Gn [3, 4] [3] <| GI_box 175 (.tmp 3) (.agg #[sl_ b19 0 12 12, sl_ b16 0 40 40]) [sl_ b19 0 12 12, sl_ b16 0 40 40] (some 4) (by kernel_rfl) (by kernel_rfl) K20 (by kernel_rfl) (by kernel_rfl) ?_
  intro b22 w22 e22 hb22 k22 z22 K23
  have hsz24 := Keep.size k22
  replace hK0 := hK0.tn k22
  have hb22lt := hb22.lt
  refine Gs [] [(0, pt b22)] <| GI_end <| X_then <| V_ret ?_
  exact X_return _ rfl ⟨_, rfl, hK0⟩
theorem rnew12_weak (A : Option Addr) (cap : Nat) (ts : List Trk) (w : World) (hA : SlT w 18 Trk.cells A cap ts) (hok : okTs ts) : Calls Tryz.prog 34 #[.slice A ts.length cap] w fun e w' => ∃ pv, e = .returned (.tuple #[.pointer pv, nt 0]) ∧ Keep none_ w w' := by
 have hAlt := SlT.lt hA
 have hok1 := hok.1
 have hok2 := hok.2.1
 have hK0 : Keep none_ w w := Keep.refl _ _
 have hzhK0 := Keep.size hK0
 refine eV ?_
 refine Vr <| On 2 [0] <| Oe <| V_seq <| Vr <| On 4 [0, 8] <| Oq (u := .bool (decide ((ts.length : Int) < 1))) (v := .bool false) 8 (by rw [decide_eq_false (by omega : ¬ ((ts.length : Int) < 1))]) <| Oen [0, 12] <| Vp [(0, .slice A ts.length cap), (12, .bool (decide ((ts.length : Int) > 4)))] <| Vq (u := .bool (decide ((ts.length : Int) > 4))) (v := .bool false) 12 (by rw [decide_eq_false (by omega : ¬ ((ts.length : Int) > 4))]) <| Vf <| Vsk <| V_seq <| Vn [0, 4] <| V_block <| Vp [(0, .slice A ts.length cap), (4, nt 0)] <| V_loop (fun k wI e => ∃ i : Nat, (k + i = ts.length) ∧ Keep none_ w wI ∧ e = [(0, .slice A ts.length cap), (4, nt (i : Int))]) ts.length ⟨0, rfl, Keep.refl _ _, rfl⟩ ?_
 rintro k4 w3 _ ⟨i, hki, hk5, rfl⟩
 have hsz6 := Keep.size hk5
 replace hA := hA.keep0 hk5
 replace hK0 := hK0.tn hk5
 have hzhk5 := Keep.size hk5
 refine V_seq <| Vn [0, 4, 16] <| Vi ((i : Int) < (ts.length : Int)) (fun hc7 => ?_) (fun hc7 => ?_)
 ·
  refine Vsk <| V_seq <| V_block <| Vr <| On 2 [0, 4, 19, 20] ?_
  obtain ⟨b8, o8, L8, T8, rfl, hat8⟩ := SlT.open_ hA (by first | omega | (simp only [List.length_map]; omega) | (simp; done) | (simp; omega))
  have hb8lt := hat8.blk.lt
  have hob9 := hAlt b8 ⟨_, rfl, rfl⟩
  refine Oi (b := b8) (o := o8) (len := ts.length) (cap := cap) (j := i) (some 21) 29 (.tmp 19) (.tmp 20) 27 18 144 .i64 ?_
  obtain ⟨x10, hx11⟩ : ∃ x, ts[i]? = some x := ⟨_, List.getElem?_eq_getElem (by first | omega | (simp only [List.length_map]; omega))⟩
  have hokx : okTrk x10 := hok.2.2 x10 (List.mem_of_getElem? hx11)
  refine La (o8 + i * 18) (Trk.cells x10) 18 hat8.blk (At.elem' hat8 (es_at hx11)) (At.len hat8 (es_at hx11)) <| Kk (r10Is_spec x10 _) fun w12 hk13 _ => ?_
  replace hk5 := hk5.tn hk13
  refine Oen [0, 4, 24] <| Vp [(0, sl_ b8 o8 ts.length cap), (4, nt (i : Int)), (24, .bool (!(decide (okTrk x10))))] <| Vq (u := .bool (!(decide (okTrk x10)))) (v := .bool false) 24 (by rw [decide_eq_true hokx]; rfl) <| Vf <| V_skip <| X_block <| X_then <| V_region ?_
  have hw16 : IntKind.i64.wrap ((i : Int) + 1) = ((i + 1 : Nat) : Int) := (wrap64_id (by omega) (by omega)).trans (by omega)
  refine On 2 [0, 18] <| Oq (u := nt (IntKind.i64.wrap ((i : Int) + 1))) (v := nt ((i + 1 : Nat) : Int)) 18 (by rw [hw16]) <| Os 3 [(0, sl_ b8 o8 ts.length cap), (4, nt ((i + 1 : Nat) : Int))] <| OI_end rfl ?_
  exact V_again (k4 - 1) (by omega) [(0, sl_ b8 o8 ts.length cap), (4, nt ((i + 1 : Nat) : Int))] rfl ⟨i + 1, by omega, hk5, rfl⟩
 refine V_exit <| X_exit_then <| X_exit_then <| X_exit_here <| X_then <| Vr <| OI_slit (E := 27) (zv := .agg #[nt 0, nt 0, nt 0, nt 0, nt 0, nt 0, nt 0, nt 0, nt 0, nt 0, nt 0, nt 0, nt 0, nt 0, nt 0, nt 0, nt 0, nt 0]) (sz := 18) (by_ := 144) 29 0 #[] [] [] (some 25) (by kernel_rfl) (by kernel_rfl) (by kernel_rfl) (by omega) rfl (by omega) (by intro v hv; cases hv) (by kernel_rfl) rfl ?_
 intro b17 w17 e17 hb17 k17 z17
 have hsz18 := Keep.size k17
 replace hA := hA.keep0 k17
 replace hK0 := hK0.tn k17
 have hb17lt := hb17.lt
 refine On 2 [25, 26] ?_
 have hl19 : ts.length = ts.length := rfl
 have hy19 := SlT.slr hA
 refine OI_append (t := 29) (at2 := 29) (E := 27) (E2 := 27) (sz := 18) (by_ := 144) (zv := .agg #[nt 0, nt 0, nt 0, nt 0, nt 0, nt 0, nt 0, nt 0, nt 0, nt 0, nt 0, nt 0, nt 0, nt 0, nt 0, nt 0, nt 0, nt 0]) (m := ([] : List Trk).length) (k := ts.length) (.tmp 25) (.tmp 26) (sl_ b17 0 0 0) (.slice A ts.length cap) (some 27) (by kernel_rfl) (by kernel_rfl) (by kernel_rfl) (by kernel_rfl) (by kernel_rfl) (by kernel_rfl) (by kernel_rfl) (SlT.slr (slt_blk (xs := ([] : List Trk)) (f := Trk.cells) (sz := 18) hb17 Trk.len rfl)) hy19 (fun u hu => by obtain ⟨z, _, hz⟩ := List.mem_flatMap.1 hu; exact Trk.one z u hz) (by first | omega | ((repeat first | rw [List.length_append] | rw [List.length_cons] | rw [List.length_nil] | rw [List.length_take] | rw [List.length_drop]) <;> omega)) (by omega) (by first | omega | ((repeat first | rw [List.length_append] | rw [List.length_cons] | rw [List.length_nil] | rw [List.length_take] | rw [List.length_drop]) <;> omega)) (by omega) ?_
 intro vv9 w19 hap
 obtain ⟨A19, cap19, rfl, hA19, hk19, own19x⟩ := app_many (f := Trk.cells) (xs := ([] : List Trk)) (ys := ts) (A := (some ⟨b17, 0, none⟩)) (cap := 0) hap hl19 Trk.len
 replace hk19 : Keep (only b17) w17 w19 := hk19.mono (fun i _ h => inA_some h)
 have own19 : ∀ q, inA A19 q → w.heap.size ≤ q := fun q hq => by rcases own19x q hq with h | h; (have h9 := inA_some h; show w.heap.size ≤ q; omega); (show w.heap.size ≤ q; omega)
 rw [List.nil_append] at hA19
 have hsz20 := Keep.size hk19
 replace hK0 := Keep.fr hK0 hk19
 have lt19 := SlT.lt hA19
 have hcap19 := SlT.cap_le hA19
 refine On 4 [28] <| Bx 152 [.slice A19 ts.length cap19, .slice none 0 0] ?_
 intro b21 w21 e21 hb21 k21 z21
 have hsz22 := Keep.size k21
 replace hK0 := hK0.tn k21
 have hb21lt := hb21.lt
 refine Ose [(2, pt b21), (3, nt 0)] <| V_ret ?_
 exact X_return _ rfl ⟨_, rfl, hK0⟩
end Go.Al

namespace Go.Al
open Go Go.RowKit Go.Proofs
theorem new_ok (A : Option Addr) (cap : Nat) (fs : List Int) (w : World) (hA : ArgT w 1 intc A cap fs) (hn : fs.length ≤ 100000) (hok : okP fs) : Calls Tryz.prog 26 #[.slice A fs.length cap] w fun e w' => ∃ l F, e = .returned (.tuple #[pt l, nt 0]) ∧ Led F w' l (newX fs 10) [] ∧ Keep none_ w w' ∧ (∀ q, F q → w.heap.size ≤ q) :=
  (new_spec6 A cap fs w hA hn).mono (by
    rintro e w' (⟨_, h⟩ | ⟨h, _⟩)
    · exact h
    · exact absurd hok h)
def rfF : List Int := [1000, 1000, 1000, 1000, 1000, 1000, 1000, 1000, 1000, 1000]
theorem rfF_step {i : Nat} (h : i < 10) : rfF.take (i + 1) = rfF.take i ++ [1000] := by
  have h2 : i < rfF.length := h
  rw [List.take_succ_eq_append_getElem h2]
  congr 2
  exact (by decide : ∀ x ∈ rfF, x = 1000) _ (List.getElem_mem h2)
def rfX : List Acc := newX rfF 10
theorem rfF_ok : okP rfF := by
  refine ⟨by decide, by decide, ?_⟩
  have h : tot (newX rfF 10) = 10000 := by kernel_rfl
  omega
set_option maxHeartbeats 1000000 in
theorem begin_weak (A : Option Addr) (cap : Nat) (ts : List Trk) (w : World) (hA : SlT w 18 Trk.cells A cap ts) (hok : okTs ts) : Calls Tryz.prog 15 #[.slice A ts.length cap] w fun e w' => ∃ b r g v l H F G xv yv zv, e = .returned (pt b) ∧ Blk w' b [pt l, pt v, pt r, .pointer xv, .pointer yv, .pointer zv, nt 0] 39 ∧ Rfr H w' r g ts [] ∧ VotT F w' v VS.zero ∧ Led G w' l rfX [] ∧ Keep none_ w w' ∧ w.heap.size ≤ b ∧ (∀ q, H q → w.heap.size ≤ q ∧ q ≠ b) ∧ (∀ q, F q → w.heap.size ≤ q ∧ q ≠ b) ∧ (∀ q, G q → w.heap.size ≤ q ∧ q ≠ b) ∧ (∀ q, H q → ¬ F q) ∧ (∀ q, H q → ¬ G q) ∧ (∀ q, F q → ¬ G q) := by
 have hAlt := SlT.lt hA
 have hK0 : Keep none_ w w := Keep.refl _ _
 have hzhK0 := Keep.size hK0
 refine eV ?_
 refine Vr <| On 1 [0] <| Oer <| On 1 [0, 3] <| Oe <| V_seq <| Vn [0, 3, 4] <| V_block <| Vp [(0, .slice A ts.length cap), (3, .slice none 0 0), (4, nt 0)] <| V_loop (fun k wI e => ∃ i : Nat, ∃ A2 : Option Addr, ∃ cap2 : Nat, ∃ ms : List Int, (k + i = 10) ∧ (i ≤ 10) ∧ (ms = rfF.take i) ∧ (SlT wI 1 intc A2 cap2 ms) ∧ (∀ q, inA A2 q → w.heap.size ≤ q) ∧ Keep none_ w wI ∧ e = [(0, .slice A ts.length cap), (3, .slice A2 ms.length cap2), (4, nt (i : Int))]) 10 ⟨0, none, 0, [], by omega, by omega, rfl, SlT.nil _ _ _, fun q h => (inA_none h).elim, Keep.refl _ _, rfl⟩ ?_
 rintro k2 w1 _ ⟨i, A2, cap2, ms, hki, hi10, hms, hA2, ow2, hk3, rfl⟩
 have hsz4 := Keep.size hk3
 replace hA := hA.keep0 hk3
 replace hK0 := hK0.tn hk3
 have hzhk3 := Keep.size hk3
 have lt2 := SlT.lt hA2
 have hml : ms.length = i := by rw [hms, List.length_take]; show min i 10 = i; omega
 refine V_seq <| Vn [0, 3, 4, 15] <| Vi ((i : Int) < 10) (fun hc5 => ?_) (fun hc5 => ?_)
 ·
  refine Vsk <| V_seq <| V_block <| V_region <| On 1 [0, 4, 18] <| OI_slit (E := 3) (zv := nt 0) (sz := 1) (by_ := 8) 72 1 #[(0, (Operand.const (Value.int IntKind.i64 1000)))] [nt 1000] [nt 1000] (some 19) (by kernel_rfl) (by kernel_rfl) (by kernel_rfl) (by omega) rfl (by omega) (by intro v hv; simp only [List.mem_cons, List.not_mem_nil, or_false] at hv; rcases hv with rfl <;> rfl) (by kernel_rfl) rfl ?_
  intro b6 w6 e6 hb6 k6 z6
  have hsz7 := Keep.size k6
  replace hA2 := hA2.keep0 k6
  replace hk3 := hk3.tn k6
  have hb6lt := hb6.lt
  refine OI_append (t := 72) (at2 := 72) (E := 3) (E2 := 3) (sz := 1) (by_ := 8) (zv := nt 0) (m := ms.length) (k := 1) (.tmp 18) (.tmp 19) (.slice A2 ms.length cap2) (sl_ b6 0 1 1) (some 20) (by kernel_rfl) (by kernel_rfl) (by kernel_rfl) (by kernel_rfl) (by kernel_rfl) (by kernel_rfl) (by kernel_rfl) (SlT.slr hA2) (slr_one hb6 (intc_len 1000)) (intc_one 1000) (by first | omega | (simp only [List.length_nil]; omega)) (by omega) (by first | omega | (simp only [List.length_nil]; omega)) (by omega) ?_
  intro vv9 w8 hap
  obtain ⟨A8, cap8, rfl, hA8, hk8, own8x⟩ := app_one (f := intc) (xs := ms) (x := 1000) (A := A2) (cap := cap2) hap (fun x _ => intc_len x) (intc_len _)
  have own8 : ∀ q, inA A8 q → w.heap.size ≤ q := fun q hq => by rcases own8x q hq with h | h; exact ow2 q h; (show w.heap.size ≤ q; omega)
  have hsz9 := Keep.size hk8
  replace hk3 := Keep.fresh hk3 hk8 (by intro i hi hs; first | exact hs | (exfalso; have h1 := ow2 i hs; have h2 := lt2 i hs; omega) | (have h1 := ow2 i hs; have h2 := lt2 i hs; show _ ∨ _; omega))
  have lt8 := SlT.lt hA8
  refine On 4 [0, 3, 4] <| OI_end rfl <| X_block <| X_then <| V_region ?_
  have hw10 : IntKind.i64.wrap ((i : Int) + 1) = ((i + 1 : Nat) : Int) := (wrap64_id (by omega) (by omega)).trans (by omega)
  refine On 2 [0, 3, 17] <| Oq (u := nt (IntKind.i64.wrap ((i : Int) + 1))) (v := nt ((i + 1 : Nat) : Int)) 17 (by rw [hw10]) <| Os 3 [(0, .slice A ts.length cap), (3, .slice A8 ((ms ++ [1000]).length) cap8), (4, nt ((i + 1 : Nat) : Int))] <| OI_end rfl ?_
  exact V_again (k2 - 1) (by omega) [(0, .slice A ts.length cap), (3, .slice A8 ((ms ++ [1000]).length) cap8), (4, nt ((i + 1 : Nat) : Int))] rfl ⟨i + 1, A8, cap8, ms ++ [1000], by omega, by omega, by rw [rfF_step (by omega), ← hms], hA8, own8, hk3, rfl⟩
 refine V_exit <| X_exit_then <| X_exit_then <| X_exit_here <| X_then <| Vr <| On 1 [0, 3, 22] ?_
 have hie : i = 10 := by omega
 replace hms : ms = rfF := by rw [hms, hie]; rfl
 refine Kg (new_ok A2 cap2 ms _ (SlT.arg hA2) (by omega) (by rw [hms]; exact rfF_ok)) ?_
 rintro _ w11 ⟨l13, F14, rfl, ho15, hk12, hge16⟩
 refine ⟨_, rfl, ?_⟩
 have hsz17 := Keep.size hk12
 replace hA2 := hA2.keep0 hk12
 replace hK0 := hK0.tn hk12
 replace ho15 : Led F14 w11 l13 rfX [] := by rw [hms] at ho15; exact ho15
 have own18 : ∀ q, F14 q → w1.heap.size ≤ q := fun q hq => by have h1 := hge16 q hq; omega
 have lt19 := Led.lt ho15
 have dis20 : ∀ q, F14 q → ¬ inA A q := fun q h1 h2 => by have h3 := hge16 q h1; have h4 := hAlt q h2; omega
 have dis21 : ∀ q, F14 q → ¬ inA A2 q := fun q h1 h2 => by have h3 := hge16 q h1; have h4 := lt2 q h2; omega
 have hl13lt : l13 < w11.heap.size := Led.lt ho15 _ (Led.at_ ho15)
 have hl13ge := hge16 _ (Led.at_ ho15)
 refine On 7 [0, 3, 5, 6] <| Oer <| On 1 [0, 5, 6, 27] <| Kg (rnew6_weak A2 cap2 ms _ (SlT.arg hA2) (by omega)) ?_
 rintro _ w22 ⟨pv24, n25, rfl, hk23⟩
 refine ⟨_, rfl, ?_⟩
 have hsz26 := Keep.size hk23
 replace hA := hA.keep0 (hk12.tr hk23)
 replace hK0 := hK0.tn hk23
 replace ho15 := ho15.keep hk23 nk
 refine On 7 [0, 5, 6, 7] <| Oer <| On 1 [0, 5, 6, 7, 32] <| Kg (rnw_spec A cap ts _ hA hok) ?_
 rintro _ w27 ⟨r29, gg33, H30, rfl, hR31, hk28, hge32⟩
 refine ⟨_, rfl, ?_⟩
 have hsz34 := Keep.size hk28
 replace hA := hA.keep0 hk28
 replace hK0 := hK0.tn hk28
 replace ho15 := ho15.keep hk28 nk
 have own35 : ∀ q, H30 q → w22.heap.size ≤ q := fun q hq => by have h1 := hge32 q hq; omega
 have lt36 := Rfr.lt hR31
 have dis37 : ∀ q, H30 q → ¬ inA A q := fun q h1 h2 => by have h3 := hge32 q h1; have h4 := hAlt q h2; omega
 have dis38 : ∀ q, H30 q → ¬ inA A2 q := fun q h1 h2 => by have h3 := hge32 q h1; have h4 := lt2 q h2; omega
 have dis39 : ∀ q, H30 q → ¬ F14 q := fun q h1 h2 => by have h3 := hge32 q h1; have h4 := lt19 q h2; omega
 have hr29lt : r29 < w27.heap.size := Rfr.lt hR31 _ (Rfr.at_ hR31)
 have hr29ge := hge32 _ (Rfr.at_ hR31)
 refine On 7 [0, 5, 6, 7, 9, 10] <| Oer <| On 1 [5, 6, 7, 9, 10, 37] <| Kg (rnew12_weak A cap ts _ hA hok) ?_
 rintro _ w40 ⟨pv42, rfl, hk41⟩
 refine ⟨_, rfl, ?_⟩
 have hsz43 := Keep.size hk41
 replace hK0 := hK0.tn hk41
 replace ho15 := ho15.keep hk41 nk
 replace hR31 := hR31.keep hk41 nk
 refine On 7 [5, 6, 7, 9, 10, 11, 12] <| Oer <| On 1 [5, 6, 7, 9, 10, 11, 12, 41] <| Kg (new_votT _) ?_
 rintro _ w46 ⟨g48, F49, rfl, ho50, hk47, hge51⟩
 refine ⟨_, rfl, ?_⟩
 have hsz52 := Keep.size hk47
 replace hK0 := hK0.tn hk47
 replace ho15 := ho15.keep hk47 nk
 replace hR31 := hR31.keep hk47 nk
 have own53 : ∀ q, F49 q → w40.heap.size ≤ q := fun q hq => by have h1 := hge51 q hq; omega
 have lt54 := VotT.lt ho50
 have dis55 : ∀ q, F49 q → ¬ inA A q := fun q h1 h2 => by have h3 := hge51 q h1; have h4 := hAlt q h2; omega
 have dis56 : ∀ q, F49 q → ¬ inA A2 q := fun q h1 h2 => by have h3 := hge51 q h1; have h4 := lt2 q h2; omega
 have dis57 : ∀ q, F49 q → ¬ F14 q := fun q h1 h2 => by have h3 := hge51 q h1; have h4 := lt19 q h2; omega
 have dis58 : ∀ q, F49 q → ¬ H30 q := fun q h1 h2 => by have h3 := hge51 q h1; have h4 := lt36 q h2; omega
 have hg48lt : g48 < w46.heap.size := VotT.lt ho50 _ (VotT.at_ ho50)
 have hg48ge := hge51 _ (VotT.at_ ho50)
 refine On 4 [5, 6, 9, 10, 11, 12, 41, 42, 43, 44] <| Kg (rnew11_weak _) ?_
 rintro _ w59 ⟨pv61, rfl, hk60⟩
 refine ⟨_, rfl, ?_⟩
 have hsz62 := Keep.size hk60
 replace hK0 := hK0.tn hk60
 replace ho15 := ho15.keep hk60 nk
 replace hR31 := hR31.keep hk60 nk
 replace ho50 := ho50.keep hk60 nk
 refine On 7 [5, 6, 9, 10, 12, 47] <| Bx 39 [pt l13, pt g48, pt r29, .pointer pv24, .pointer pv61, .pointer pv42, nt 0] ?_
 intro b63 w63 e63 hb63 k63 z63
 have hsz64 := Keep.size k63
 replace hK0 := hK0.tn k63
 replace ho15 := ho15.keep k63 nk
 replace hR31 := hR31.keep k63 nk
 replace ho50 := ho50.keep k63 nk
 have hb63lt := hb63.lt
 refine On 9 [5, 6, 9, 10, 12, 13] <| Oe <| V_seq <| Vr <| On 10 [9, 10, 12, 13, 55, 58] <| Lr 1 (pt g48) hb63 <| Oen [13, 74] <| Vf <| Vsk <| Vs [(2, pt b63)] <| V_ret ?_
 exact X_return _ rfl ⟨b63, r29, gg33, g48, l13, H30, F49, F14, pv24, pv61, pv42, rfl, hb63, hR31, ho50, ho15, hK0, by omega, (fun q hq => ⟨by have h1 := own35 q hq; omega, by have h1 := lt36 q hq; omega⟩), (fun q hq => ⟨by have h1 := own53 q hq; omega, by have h1 := lt54 q hq; omega⟩), (fun q hq => ⟨by have h1 := own18 q hq; omega, by have h1 := lt19 q hq; omega⟩), (fun q h1 h2 => dis58 q h2 h1), dis39, dis57⟩
end Go.Al

namespace Go.Al
open Go Go.RowKit Go.Proofs
set_option maxHeartbeats 1000000 in
theorem unvote_at (F : Nat → Prop) (v : Nat) (P : VP) (s : VS) (who ref now : Int) (w : World) (h : Vot F w v P s) (htr : TrkOk s) : Calls Tryz.prog 33 #[pt v, nt who, nt ref, nt now] w fun e w' => e = .returned (nt (unvE s who ref)) ∧ (∃ F', VotE F' w' v (unvS s who ref now) ∧ (∀ q, F' q → F q ∨ w.heap.size ≤ q)) ∧ Keep F w w' := by
 have hFlt := Vot.lt h
 have hvlt := hFlt _ (Vot.at_ h)
 have hFo : ∀ q, F q → 0 ≤ q := fun q _ => Nat.zero_le q
 have hFr : ∀ q, F q → F q ∨ w.heap.size ≤ q := fun _ h => .inl h
 obtain ⟨hvl0, hvb⟩ := Vot.vblk h
 have hFv := Vot.at_ h
 have hinv := Vot.inv h
 have hK0 : Keep F w w := Keep.refl _ _
 have hzhK0 := Keep.size hK0
 refine eV ?_
 refine Vr <| On 1 [0, 1, 2, 3] <| Oe <| V_seq <| Vr <| On 4 [0, 1, 2, 3, 15, 16] <| Kq (isAcc_spec who _) <| Oen [0, 1, 2, 3, 19] <| V_not (0 ≤ who ∧ who ≤ 9) (by kernel_rfl) (fun hc6 => ?_) (fun hc6 => ?_)
 ·
  refine Vn [8] <| Rt ?_
  have hE7 : unvE s who ref = 1 := by unfold unvE; rw [if_pos hc6]
  exact Xr (nt 1) ⟨by rw [hE7], ⟨F, ⟨_, by rw [show unvS s who ref now = s from by unfold unvS; rw [hE7, if_neg (by decide)]]; exact h⟩, hFr⟩, hK0⟩
 refine Vsk <| Vr <| On 2 [0, 1, 2, 3, 20, 21] ?_
 rcases Vot.pollcase h ref with ⟨hpn8, hpc8⟩ | ⟨i8, b8, q8, hpr8, hpi8, hpp8, hps8, hpa8⟩
 ·
  refine Kk (poll_none F v P s ref _ h hpc8) fun w11 hk12 _ => ?_
  replace h := h.keep hk12 nk
  replace hK0 := hK0.tn hk12
  refine On 4 [0, 1, 2, 3, 9] <| Oe <| V_seq <| Vn [0, 1, 2, 3, 9, 24] <| Vo <| Vn [8] <| Rt ?_
  have hE14 : unvE s who ref = 4 := by unfold unvE; rw [if_neg (fun h9 => h9 hc6)]; rw [hpn8]
  exact Xr (nt 4) ⟨by rw [hE14], ⟨F, ⟨_, by rw [show unvS s who ref now = s from by unfold unvS; rw [hE14, if_neg (by decide)]]; exact h⟩, hFr⟩, hK0⟩
 ·
  refine Ok (kl 64 #[(.tmp 20), (.tmp 21)] #[33, 3]) 64 #[pt v, nt ref] (some 22) ((by rw [hpr8]; exact poll_some F v P s i8 b8 _ h hpi8 hpp8)) ?_
  rintro _ w17 ⟨rfl, hk18⟩
  refine ⟨_, rfl, ?_⟩
  have hsz19 := Keep.size hk18
  replace hvb := hvb.k0 hk18
  replace h := h.keep hk18 nk
  replace hK0 := hK0.tn hk18
  obtain ⟨hm20, hF21⟩ := Vot.pollB h hpp8 hps8
  have hb8lt := hm20.lt
  have hlob8 := hFlt _ hF21
  have hob8 := hFo _ hF21
  have hneb8v : b8 ≠ v := Blk.ne hm20 hvb (by decide)
  refine On 4 [0, 1, 2, 3, 9] <| Oe <| V_seq <| Vn [0, 1, 2, 3, 9, 24] <| Vf <| Vsk <| Vr <| On 5 [0, 1, 2, 3, 9, 25, 26, 29] <| Lr 0 (nt ((q8).track)) hm20 ?_
  rcases hd22 : (s.rc who ((q8).track)).d with _ | d23
  ·
   refine Kg (record_spec F v P s who ((q8).track) _ h (by omega) (htr _ _ (by assumption))) ?_
   rintro _ w38 ⟨q28, P29, rfl, hgc33, hpp34, hgv35, hmn36, hdl37, ⟨F30, ho31, hfr32⟩, hk39⟩
   refine ⟨_, rfl, ?_⟩
   have hsz40 := Keep.size hk39
   replace hK0 := Keep.fresh hK0 hk39 (fun i hi hs => by rcases hFr i hs with h | h; exact h; (exfalso; omega))
   have own42 : ∀ q, F30 q → 0 ≤ q := fun q hq => by rcases hfr32 q hq with h | h; (have h1 := hFo q h; have h2 := hFlt q h; omega); omega
   have lt41 := Vot.lt ho31
   have rel43 : ∀ q, F30 q → F q ∨ w.heap.size ≤ q := fun q hq => by rcases hfr32 q hq with h | h; exact hFr q h; exact .inr (by omega)
   have hqb8w38 := (show P29.pp[i8]? = some (some ⟨b8, 0, none⟩) from by rw [hpp34]; exact hpp8)
   have hgq28lt := lt41 _ (Vot.at_ ho31)
   obtain ⟨hvlhm44, hm44⟩ := Vot.vblk ho31
   have hF45 := Vot.at_ ho31
   have hvlt := hm44.lt
   have hlov := lt41 _ hF45
   have hov := own42 _ hF45
   obtain ⟨hm46, hF47⟩ := Vot.pollB ho31 hqb8w38 hps8
   have hb8lt := hm46.lt
   have hlob8 := lt41 _ hF47
   have hob8 := own42 _ hF47
   obtain ⟨hF49, hm48⟩ := Vot.recN ho31 hgc33 hd22
   have hq28lt := hm48.lt
   have hloq28 := lt41 _ hF49
   have hoq28 := own42 _ hF49
   have hneb8v : b8 ≠ v := Blk.ne hm46 hm44 (by decide)
   have hneq28v : q28 ≠ v := Blk.ne hm48 hm44 (by decide)
   have hneq28b8 : q28 ≠ b8 := Blk.ne hm48 hm46 (by decide)
   refine On 8 [0, 1, 2, 3, 9, 10] <| Oer <| On 3 [0, 1, 2, 3, 9, 10, 35] <| Lc 12 (pt P29.gv) hm44 (by rw [List.getElem?_append_right (by rw [List.length_map]; omega), List.length_map, hvlhm44]; rfl) ?_
   refine On 6 [0, 1, 2, 3, 9, 10, 36, 37, 38] <| Kk (vget_spec F30 v P29 s who ref _ ho31) fun w52 hk53 _ => ?_
   replace hK0 := hK0.tn hk53
   replace ho31 := ho31.keep hk53 nk
   refine On 10 [0, 1, 2, 3, 9, 10, 40, 41] <| Al 67 (.agg #[nt 0, .bool false, nt 0, nt 0, nt 0, nt 0]) [nt 0, .bool false, nt 0, nt 0, nt 0, nt 0] ?_
   intro b55 w55 e55 hb55 k55 z55
   have hsz56 := Keep.size k55
   replace hm44 := hm44.k0 (hk53.tr k55)
   replace hK0 := hK0.tn k55
   replace ho31 := ho31.keep k55 nk
   have hb55lt := hb55.lt
   refine Sg 0 (Vt.cells ((GV.getC who ref s.cs).getD Vt.zero)) hb55 (Vt.len _) (Vt.one _) ?_
   intro w57 hb55_60 hk58 hz59
   replace hb55_60 : Blk w57 b55 (Vt.cells ((GV.getC who ref s.cs).getD Vt.zero)) 67 := (by rwa [over_whole (by rw [Vt.len]; rfl)] at hb55_60)
   have hsz61 := Keep.size hk58
   replace hm44 := hm44.k1 hk58
   replace hK0 := Keep.fr hK0 hk58
   replace ho31 := ho31.keep hk58 (fun q hq hs => by have hs : q = b55 := hs; have g0 := own42 q hq; have g1 := lt41 q hq; omega)
   refine On 13 [0, 1, 2, 3, 9, 10, 11, 12] <| Oe <| V_seq <| Vn [0, 1, 2, 3, 9, 10, 11, 43] <| Vb (!((GV.getC who ref s.cs).isSome)) (fun hc62 => ?_) (fun hc62 => ?_)
   ·
    refine Vn [8] <| Rt ?_
    have hE63 : unvE s who ref = 4 := by unfold unvE; rw [if_neg (fun h9 => h9 hc6)]; rw [hpa8]; dsimp only; rw [if_neg (by rw [(show (GV.getC who ref s.cs).isSome = false from by simpa using hc62)]; decide)]
    exact Xr (nt 4) ⟨by rw [hE63], ⟨F30, ⟨_, by rw [show unvS s who ref now = s from by unfold unvS; rw [hE63, if_neg (by decide)]]; exact ho31⟩, rel43⟩, hK0⟩
   refine Vsk <| Vr <| On 3 [1, 2, 3, 9, 10, 11, 46] <| Lc 12 (pt P29.gv) hm44 (by rw [List.getElem?_append_right (by rw [List.length_map]; omega), List.length_map, hvlhm44]; rfl) ?_
   refine On 6 [3, 9, 10, 11, 47, 48, 49] <| Kg (vdel_spec F30 v P29 s who ref _ ho31) ?_
   rintro _ w68 ⟨rfl, ⟨F70, ho71, hfr72⟩, hk69⟩
   refine ⟨_, rfl, ?_⟩
   have hsz73 := Keep.size hk69
   replace hb55_60 := hb55_60.keep hk69 (fun hs => by have h1 := own42 _ hs; have h2 := lt41 _ hs; omega)
   replace hK0 := Keep.fresh hK0 hk69 (fun i hi hs => by rcases rel43 i hs with h | h; exact h; (exfalso; omega))
   have own75 : ∀ q, F70 q → 0 ≤ q ∧ q ≠ b55 := fun q hq => by rcases hfr72 q hq with h | h; (have h1 := own42 q h; have h2 := lt41 q h; omega); omega
   have lt74 := Vot.lt ho71
   have rel76 : ∀ q, F70 q → F q ∨ w.heap.size ≤ q := fun q hq => by rcases hfr72 q hq with h | h; exact rel43 q h; exact .inr (by omega)
   obtain ⟨hvlhm77, hm77⟩ := Vot.vblk ho71
   have hF78 := Vot.at_ ho71
   have hvlt := hm77.lt
   have hlov := lt74 _ hF78
   have hov := own75 _ hF78
   obtain ⟨hm79, hF80⟩ := Vot.pollB ho71 hqb8w38 hps8
   have hb8lt := hm79.lt
   have hlob8 := lt74 _ hF80
   have hob8 := own75 _ hF80
   obtain ⟨hF82, hm81⟩ := Vot.recN ho71 hgc33 hd22
   have hq28lt := hm81.lt
   have hloq28 := lt74 _ hF82
   have hoq28 := own75 _ hF82
   have hneb8v : b8 ≠ v := Blk.ne hm79 hm77 (by decide)
   have hneq28v : q28 ≠ v := Blk.ne hm81 hm77 (by decide)
   have hneq28b8 : q28 ≠ b8 := Blk.ne hm81 hm79 (by decide)
   refine Oe <| V_seq <| V_block <| Vr <| On 3 [3, 9, 10, 11, 54] <| Lr 4 (nt ((q8).state)) hm79 <| Oen [3, 9, 10, 11, 51] <| Vi ((q8).state = 0) (fun hc83 => ?_) (fun hc83 => ?_)
   ·
    refine Vd1 (acts [10, 11, 14]) none_ [5, 6, 7, 8, 9, 10, 1, 2, 3, 4, 11, 0, 12, 13, 14] fun w85 hk84 he86 K89 _ => ?_
    replace hb55_60 := hb55_60.k0 hk84
    replace hm79 := hm79.k0 hk84
    replace hm81 := hm81.k0 hk84
    replace hK0 := hK0.tn hk84
    replace ho71 := ho71.keep hk84 nk
    have qhb55_60 := hb55_60
    have qhm79 := hm79
    have qhm81 := hm81
    refine Ma 0 (Vt.cells ((GV.getC who ref s.cs).getD Vt.zero)) 6 qhb55_60 id (take_all (Vt.len _)) (Vt.len _) <| Gn [9, 10, 1, 2, 3, 4, 11, 0, 12, 13, 14] [9, 62, 65] <| Ma 1 [nt (((s.rc who ((q8).track))).got.v), nt (((s.rc who ((q8).track))).got.c)] 2 qhm81 id rfl rfl <| Hg (cvGain_spec ((GV.getC who ref s.cs).getD Vt.zero) (((s.rc who ((q8).track))).got) _) ?_
    rintro _ w92 ⟨rfl, hk93⟩
    have K94 := K89.tr (Keep.ofNone hk93)
    refine ⟨_, rfl, K94, ?_⟩
    have hzK94 := Keep.size K94
    have hsz95 := Keep.size hk93
    replace hK0 := hK0.tn hk93
    replace ho71 := ho71.keep hk93 nk
    refine Gn [4, 11, 0, 12, 13, 14] [9, 60, 67] <| Ma 1 [nt ((q8).t.a), nt ((q8).t.n), nt ((q8).t.s)] 3 qhm79 id rfl rfl <| Hg (cvSub_spec ((q8).t) (gainT ((GV.getC who ref s.cs).getD Vt.zero) (((s.rc who ((q8).track))).got)) _) ?_
    rintro _ w98 ⟨rfl, hk99⟩
    have K100 := K94.tr (Keep.ofNone hk99)
    refine ⟨_, rfl, K100, ?_⟩
    have hzK100 := Keep.size K100
    have hsz101 := Keep.size hk99
    replace hm79 := hm79.k0 (hk93.tr hk99)
    replace hK0 := hK0.tn hk99
    replace ho71 := ho71.keep hk99 nk
    refine Gn [14] [68, 70] <| GI_final 14 (by kernel_rfl) (by kernel_rfl) <| Sg 1 (Tly.cells (subT ((q8).t) (gainT ((GV.getC who ref s.cs).getD Vt.zero) (((s.rc who ((q8).track))).got)))) hm79 (Tly.len _) (Tly.one _) ?_
    intro w102 hn105 hk103 hz104
    replace hn105 : Blk w102 b8 (PollS.cells { q8 with t := (subT ((q8).t) (gainT ((GV.getC who ref s.cs).getD Vt.zero) (((s.rc who ((q8).track))).got))) }) 133 := hn105
    have hsz106 := Keep.size hk103
    replace hK0 := Keep.fresh hK0 hk103 (fun i hi hs => by have hs : F70 i := (by rw [show i = b8 from hs]; exact hF80); rcases rel76 i hs with h | h; exact h; (exfalso; omega))
    obtain ⟨tv108, htv108⟩ : ∃ t9 : Tly, t9 = (subT ((q8).t) (gainT ((GV.getC who ref s.cs).getD Vt.zero) (((s.rc who ((q8).track))).got))) := ⟨_, rfl⟩
    rw [← htv108] at hn105
    have ho107 := Vot.setPoll ho71 hqb8w38 hps8 hk103 (show Blk _ _ (PollS.cells { q8 with t := tv108 }) _ from hn105)
    have hs109 : (({ s with cs := GV.delC who ref s.cs }).setP i8 { q8 with t := tv108 }).ps[i8]? = some (some { q8 with t := tv108 }) := List.getElem?_set_self (List.getElem?_eq_some_iff.1 hps8).1
    have hb8lt := hn105.lt
    refine OI_end rfl <| X_block <| X_then <| Vn [8] <| V_ret ?_
    have hE110 : unvE s who ref = 0 := by unfold unvE; rw [if_neg (fun h9 => h9 hc6)]; rw [hpa8]; dsimp only; rw [if_pos (show (GV.getC who ref s.cs).isSome = true from by simpa using hc62)]
    exact Xr (nt 0) ⟨by rw [hE110], ⟨F70, ⟨_, by rw [show unvS s who ref now = (({ s with cs := GV.delC who ref s.cs }).setP i8 { q8 with t := tv108 }) from by unfold unvS; rw [hE110, if_pos rfl, hpa8]; dsimp only; rw [if_pos hc83, show ref.toNat = i8 from by rw [hpr8]; exact Int.toNat_natCast _, htv108]]; exact ho107⟩, rel76⟩, hK0⟩
   refine V_seq <| Vd1 (acts [5]) none_ [0, 1, 2, 3, 4, 5, 6] fun w112 hk111 he113 K116 _ => ?_
   replace hb55_60 := hb55_60.k0 hk111
   replace hm79 := hm79.k0 hk111
   replace hK0 := hK0.tn hk111
   replace ho71 := ho71.keep hk111 nk
   have qhb55_60 := hb55_60
   have qhm79 := hm79
   refine Ma 0 (Vt.cells ((GV.getC who ref s.cs).getD Vt.zero)) 6 qhb55_60 id (take_all (Vt.len _)) (Vt.len _) <| Gn [4, 5, 6] [3, 9, 10, 11, 72, 75] <| Mr 4 (nt ((q8).state)) qhm79 <| Hg (won_spec ((GV.getC who ref s.cs).getD Vt.zero) ((q8).state) _) ?_
   rintro _ w119 ⟨rfl, hk120⟩
   have K121 := K116.tr (Keep.ofNone hk120)
   refine ⟨_, rfl, K121, ?_⟩
   have hzK121 := Keep.size K121
   have hsz122 := Keep.size hk120
   replace hb55_60 := hb55_60.k0 hk120
   replace hm79 := hm79.k0 hk120
   replace hm81 := hm81.k0 (hk111.tr hk120)
   replace hK0 := hK0.tn hk120
   replace ho71 := ho71.keep hk120 nk
   refine Gn [] [3, 9, 10, 11, 71] <| GI_end <| X_then <| Vb (wonV ((GV.getC who ref s.cs).getD Vt.zero) ((q8).state)) (fun hc123 => ?_) (fun hc123 => ?_)
   ·
    refine Vd1 (acts [7, 12]) none_ [5, 6, 7, 0, 1, 2, 3, 4, 8, 9, 10, 11, 12] fun w125 hk124 he126 K129 _ => ?_
    replace hb55_60 := hb55_60.k0 hk124
    replace hm79 := hm79.k0 hk124
    replace hm81 := hm81.k0 hk124
    replace hK0 := hK0.tn hk124
    replace ho71 := ho71.keep hk124 nk
    have qhb55_60 := hb55_60
    have qhm79 := hm79
    refine Gn [6, 7, 0, 1, 2, 3, 4, 8, 9, 10, 11, 12] [3, 9, 10, 11, 83] <| Mr 2 (nt (((GV.getC who ref s.cs).getD Vt.zero).level)) qhb55_60 <| Hq K129 (cvPeriod_spec (((GV.getC who ref s.cs).getD Vt.zero).level) 8 _ (lev_ok hinv (show (GV.getC who ref s.cs).isSome = true from by simpa using hc62) hc123)) <| Gn [4, 8, 9, 10, 11, 12] [3, 11, 78, 81, 85] <| Mr 5 (nt ((q8).stop)) qhm79 <| Gn [10, 11, 12] [3, 78, 86, 87] <| Mr 3 (nt (((GV.getC who ref s.cs).getD Vt.zero).a)) qhb55_60 <| Gn [12] [78, 86, 88, 89] <| GI_final 12 (by kernel_rfl) (by kernel_rfl) <| Kg (joins_spec q28 none (s.rc who ((q8).track)) (IntKind.i64.wrap (((q8).stop) + (cvPeriod (((GV.getC who ref s.cs).getD Vt.zero).level) 8))) (((GV.getC who ref s.cs).getD Vt.zero).a) now _ hm81) ?_
    rintro _ w137 ⟨rfl, hn139, hk138⟩
    refine ⟨_, rfl, ?_⟩
    have hsz140 := Keep.size hk138
    replace hK0 := Keep.fresh hK0 hk138 (fun i hi hs => by have hs : F70 i := (by rw [show i = q28 from hs]; exact hF82); rcases rel76 i hs with h | h; exact h; (exfalso; omega))
    have ho141 := Vot.setRec (a := who) (t := ((q8).track)) (r' := (joinR (s.rc who ((q8).track)) (IntKind.i64.wrap (((q8).stop) + (cvPeriod (((GV.getC who ref s.cs).getD Vt.zero).level) 8))) (((GV.getC who ref s.cs).getD Vt.zero).a) now)) (dp := none) (dp' := none) ho71 hgc33 hm81 hk138 (show Blk _ _ (RecS.cells none (joinR (s.rc who ((q8).track)) (IntKind.i64.wrap (((q8).stop) + (cvPeriod (((GV.getC who ref s.cs).getD Vt.zero).level) 8))) (((GV.getC who ref s.cs).getD Vt.zero).a) now)) _ from hn139) (.inl ⟨rfl, by first | rfl | exact joinR_d _ _ _ _ | (rw [show ({ s with cs := GV.delC who ref s.cs }).rc who ((q8).track) = (s.rc who ((q8).track)) from rfl]) | (rw [show ({ s with cs := GV.delC who ref s.cs }).rc who ((q8).track) = (s.rc who ((q8).track)) from rfl]; exact joinR_d _ _ _ _)⟩)
    obtain ⟨r142, hr142⟩ : ∃ r9 : RecS, r9 = (joinR (s.rc who ((q8).track)) (IntKind.i64.wrap (((q8).stop) + (cvPeriod (((GV.getC who ref s.cs).getD Vt.zero).level) 8))) (((GV.getC who ref s.cs).getD Vt.zero).a) now) := ⟨_, rfl⟩
    replace hn139 : Blk w137 q28 (RecS.cells none r142) 141 := by rw [hr142]; exact hn139
    have hq28lt := hn139.lt
    refine OI_end rfl <| X_block <| X_then <| Vn [8] <| V_ret ?_
    have hE143 : unvE s who ref = 0 := by unfold unvE; rw [if_neg (fun h9 => h9 hc6)]; rw [hpa8]; dsimp only; rw [if_pos (show (GV.getC who ref s.cs).isSome = true from by simpa using hc62)]
    exact Xr (nt 0) ⟨by rw [hE143], ⟨F70, ⟨_, by rw [show unvS s who ref now = (({ s with cs := GV.delC who ref s.cs }).setR who ((q8).track) (joinR (s.rc who ((q8).track)) (IntKind.i64.wrap (((q8).stop) + (cvPeriod (((GV.getC who ref s.cs).getD Vt.zero).level) 8))) (((GV.getC who ref s.cs).getD Vt.zero).a) now)) from by unfold unvS; rw [hE143, if_pos rfl, hpa8]; dsimp only; rw [if_neg hc83]; rw [if_pos hc123]]; exact ho141⟩, rel76⟩, hK0⟩
   refine V_skip <| X_block <| X_then <| Vn [8] <| V_ret ?_
   have hE144 : unvE s who ref = 0 := by unfold unvE; rw [if_neg (fun h9 => h9 hc6)]; rw [hpa8]; dsimp only; rw [if_pos (show (GV.getC who ref s.cs).isSome = true from by simpa using hc62)]
   exact Xr (nt 0) ⟨by rw [hE144], ⟨F70, ⟨_, by rw [show unvS s who ref now = ({ s with cs := GV.delC who ref s.cs }) from by unfold unvS; rw [hE144, if_pos rfl, hpa8]; dsimp only; rw [if_neg hc83]; rw [if_neg (by rw [hc123]; decide)]]; exact ho71⟩, rel76⟩, hK0⟩
  ·
   refine Kg (record_spec F v P s who ((q8).track) _ h (by omega) (htr _ _ (by assumption))) ?_
   rintro _ w159 ⟨q149, P150, rfl, hgc154, hpp155, hgv156, hmn157, hdl158, ⟨F151, ho152, hfr153⟩, hk160⟩
   refine ⟨_, rfl, ?_⟩
   have hsz161 := Keep.size hk160
   replace hK0 := Keep.fresh hK0 hk160 (fun i hi hs => by rcases hFr i hs with h | h; exact h; (exfalso; omega))
   have own163 : ∀ q, F151 q → 0 ≤ q := fun q hq => by rcases hfr153 q hq with h | h; (have h1 := hFo q h; have h2 := hFlt q h; omega); omega
   have lt162 := Vot.lt ho152
   have rel164 : ∀ q, F151 q → F q ∨ w.heap.size ≤ q := fun q hq => by rcases hfr153 q hq with h | h; exact hFr q h; exact .inr (by omega)
   have hqb8w159 := (show P150.pp[i8]? = some (some ⟨b8, 0, none⟩) from by rw [hpp155]; exact hpp8)
   have hgq149lt := lt162 _ (Vot.at_ ho152)
   obtain ⟨hvlhm165, hm165⟩ := Vot.vblk ho152
   have hF166 := Vot.at_ ho152
   have hvlt := hm165.lt
   have hlov := lt162 _ hF166
   have hov := own163 _ hF166
   obtain ⟨hm167, hF168⟩ := Vot.pollB ho152 hqb8w159 hps8
   have hb8lt := hm167.lt
   have hlob8 := lt162 _ hF168
   have hob8 := own163 _ hF168
   obtain ⟨bd171, hF170, hF172, hm169, hm173⟩ := Vot.recD ho152 hgc154 hd22
   have hbd171lt := hm173.lt
   have hlobd171 := lt162 _ hF172
   have hobd171 := own163 _ hF172
   have hq149lt := hm169.lt
   have hloq149 := lt162 _ hF170
   have hoq149 := own163 _ hF170
   have hneb8v : b8 ≠ v := Blk.ne hm167 hm165 (by decide)
   have hneq149v : q149 ≠ v := Blk.ne hm169 hm165 (by decide)
   have hneq149b8 : q149 ≠ b8 := Blk.ne hm169 hm167 (by decide)
   have hnebd171v : bd171 ≠ v := Blk.ne hm173 hm165 (by decide)
   have hnebd171b8 : bd171 ≠ b8 := Blk.ne hm173 hm167 (by decide)
   have hnebd171q149 : bd171 ≠ q149 := Blk.ne hm173 hm169 (by decide)
   refine On 8 [0, 1, 2, 3, 9, 10] <| Oer <| On 3 [0, 1, 2, 3, 9, 10, 35] <| Lc 12 (pt P150.gv) hm165 (by rw [List.getElem?_append_right (by rw [List.length_map]; omega), List.length_map, hvlhm165]; rfl) ?_
   refine On 6 [0, 1, 2, 3, 9, 10, 36, 37, 38] <| Kk (vget_spec F151 v P150 s who ref _ ho152) fun w176 hk177 _ => ?_
   replace hK0 := hK0.tn hk177
   replace ho152 := ho152.keep hk177 nk
   refine On 10 [0, 1, 2, 3, 9, 10, 40, 41] <| Al 67 (.agg #[nt 0, .bool false, nt 0, nt 0, nt 0, nt 0]) [nt 0, .bool false, nt 0, nt 0, nt 0, nt 0] ?_
   intro b179 w179 e179 hb179 k179 z179
   have hsz180 := Keep.size k179
   replace hm165 := hm165.k0 (hk177.tr k179)
   replace hK0 := hK0.tn k179
   replace ho152 := ho152.keep k179 nk
   have hb179lt := hb179.lt
   refine Sg 0 (Vt.cells ((GV.getC who ref s.cs).getD Vt.zero)) hb179 (Vt.len _) (Vt.one _) ?_
   intro w181 hb179_184 hk182 hz183
   replace hb179_184 : Blk w181 b179 (Vt.cells ((GV.getC who ref s.cs).getD Vt.zero)) 67 := (by rwa [over_whole (by rw [Vt.len]; rfl)] at hb179_184)
   have hsz185 := Keep.size hk182
   replace hm165 := hm165.k1 hk182
   replace hK0 := Keep.fr hK0 hk182
   replace ho152 := ho152.keep hk182 (fun q hq hs => by have hs : q = b179 := hs; have g0 := own163 q hq; have g1 := lt162 q hq; omega)
   refine On 13 [0, 1, 2, 3, 9, 10, 11, 12] <| Oe <| V_seq <| Vn [0, 1, 2, 3, 9, 10, 11, 43] <| Vb (!((GV.getC who ref s.cs).isSome)) (fun hc186 => ?_) (fun hc186 => ?_)
   ·
    refine Vn [8] <| Rt ?_
    have hE187 : unvE s who ref = 4 := by unfold unvE; rw [if_neg (fun h9 => h9 hc6)]; rw [hpa8]; dsimp only; rw [if_neg (by rw [(show (GV.getC who ref s.cs).isSome = false from by simpa using hc186)]; decide)]
    exact Xr (nt 4) ⟨by rw [hE187], ⟨F151, ⟨_, by rw [show unvS s who ref now = s from by unfold unvS; rw [hE187, if_neg (by decide)]]; exact ho152⟩, rel164⟩, hK0⟩
   refine Vsk <| Vr <| On 3 [1, 2, 3, 9, 10, 11, 46] <| Lc 12 (pt P150.gv) hm165 (by rw [List.getElem?_append_right (by rw [List.length_map]; omega), List.length_map, hvlhm165]; rfl) ?_
   refine On 6 [3, 9, 10, 11, 47, 48, 49] <| Kg (vdel_spec F151 v P150 s who ref _ ho152) ?_
   rintro _ w192 ⟨rfl, ⟨F194, ho195, hfr196⟩, hk193⟩
   refine ⟨_, rfl, ?_⟩
   have hsz197 := Keep.size hk193
   replace hb179_184 := hb179_184.keep hk193 (fun hs => by have h1 := own163 _ hs; have h2 := lt162 _ hs; omega)
   replace hK0 := Keep.fresh hK0 hk193 (fun i hi hs => by rcases rel164 i hs with h | h; exact h; (exfalso; omega))
   have own199 : ∀ q, F194 q → 0 ≤ q ∧ q ≠ b179 := fun q hq => by rcases hfr196 q hq with h | h; (have h1 := own163 q h; have h2 := lt162 q h; omega); omega
   have lt198 := Vot.lt ho195
   have rel200 : ∀ q, F194 q → F q ∨ w.heap.size ≤ q := fun q hq => by rcases hfr196 q hq with h | h; exact rel164 q h; exact .inr (by omega)
   obtain ⟨hvlhm201, hm201⟩ := Vot.vblk ho195
   have hF202 := Vot.at_ ho195
   have hvlt := hm201.lt
   have hlov := lt198 _ hF202
   have hov := own199 _ hF202
   obtain ⟨hm203, hF204⟩ := Vot.pollB ho195 hqb8w159 hps8
   have hb8lt := hm203.lt
   have hlob8 := lt198 _ hF204
   have hob8 := own199 _ hF204
   obtain ⟨bd207, hF206, hF208, hm205, hm209⟩ := Vot.recD ho195 hgc154 hd22
   have hbd207lt := hm209.lt
   have hlobd207 := lt198 _ hF208
   have hobd207 := own199 _ hF208
   have hq149lt := hm205.lt
   have hloq149 := lt198 _ hF206
   have hoq149 := own199 _ hF206
   have hneb8v : b8 ≠ v := Blk.ne hm203 hm201 (by decide)
   have hneq149v : q149 ≠ v := Blk.ne hm205 hm201 (by decide)
   have hneq149b8 : q149 ≠ b8 := Blk.ne hm205 hm203 (by decide)
   have hnebd207v : bd207 ≠ v := Blk.ne hm209 hm201 (by decide)
   have hnebd207b8 : bd207 ≠ b8 := Blk.ne hm209 hm203 (by decide)
   have hnebd207q149 : bd207 ≠ q149 := Blk.ne hm209 hm205 (by decide)
   refine Oe <| V_seq <| V_block <| Vr <| On 3 [3, 9, 10, 11, 54] <| Lr 4 (nt ((q8).state)) hm203 <| Oen [3, 9, 10, 11, 51] <| Vi ((q8).state = 0) (fun hc210 => ?_) (fun hc210 => ?_)
   ·
    refine Vd1 (acts [10, 11, 14]) none_ [5, 6, 7, 8, 9, 10, 1, 2, 3, 4, 11, 0, 12, 13, 14] fun w212 hk211 he213 K216 _ => ?_
    replace hb179_184 := hb179_184.k0 hk211
    replace hm203 := hm203.k0 hk211
    replace hm205 := hm205.k0 hk211
    replace hK0 := hK0.tn hk211
    replace ho195 := ho195.keep hk211 nk
    have qhb179_184 := hb179_184
    have qhm203 := hm203
    have qhm205 := hm205
    refine Ma 0 (Vt.cells ((GV.getC who ref s.cs).getD Vt.zero)) 6 qhb179_184 id (take_all (Vt.len _)) (Vt.len _) <| Gn [9, 10, 1, 2, 3, 4, 11, 0, 12, 13, 14] [9, 62, 65] <| Ma 1 [nt (((s.rc who ((q8).track))).got.v), nt (((s.rc who ((q8).track))).got.c)] 2 qhm205 id rfl rfl <| Hg (cvGain_spec ((GV.getC who ref s.cs).getD Vt.zero) (((s.rc who ((q8).track))).got) _) ?_
    rintro _ w219 ⟨rfl, hk220⟩
    have K221 := K216.tr (Keep.ofNone hk220)
    refine ⟨_, rfl, K221, ?_⟩
    have hzK221 := Keep.size K221
    have hsz222 := Keep.size hk220
    replace hK0 := hK0.tn hk220
    replace ho195 := ho195.keep hk220 nk
    refine Gn [4, 11, 0, 12, 13, 14] [9, 60, 67] <| Ma 1 [nt ((q8).t.a), nt ((q8).t.n), nt ((q8).t.s)] 3 qhm203 id rfl rfl <| Hg (cvSub_spec ((q8).t) (gainT ((GV.getC who ref s.cs).getD Vt.zero) (((s.rc who ((q8).track))).got)) _) ?_
    rintro _ w225 ⟨rfl, hk226⟩
    have K227 := K221.tr (Keep.ofNone hk226)
    refine ⟨_, rfl, K227, ?_⟩
    have hzK227 := Keep.size K227
    have hsz228 := Keep.size hk226
    replace hm203 := hm203.k0 (hk220.tr hk226)
    replace hK0 := hK0.tn hk226
    replace ho195 := ho195.keep hk226 nk
    refine Gn [14] [68, 70] <| GI_final 14 (by kernel_rfl) (by kernel_rfl) <| Sg 1 (Tly.cells (subT ((q8).t) (gainT ((GV.getC who ref s.cs).getD Vt.zero) (((s.rc who ((q8).track))).got)))) hm203 (Tly.len _) (Tly.one _) ?_
    intro w229 hn232 hk230 hz231
    replace hn232 : Blk w229 b8 (PollS.cells { q8 with t := (subT ((q8).t) (gainT ((GV.getC who ref s.cs).getD Vt.zero) (((s.rc who ((q8).track))).got))) }) 133 := hn232
    have hsz233 := Keep.size hk230
    replace hK0 := Keep.fresh hK0 hk230 (fun i hi hs => by have hs : F194 i := (by rw [show i = b8 from hs]; exact hF204); rcases rel200 i hs with h | h; exact h; (exfalso; omega))
    obtain ⟨tv235, htv235⟩ : ∃ t9 : Tly, t9 = (subT ((q8).t) (gainT ((GV.getC who ref s.cs).getD Vt.zero) (((s.rc who ((q8).track))).got))) := ⟨_, rfl⟩
    rw [← htv235] at hn232
    have ho234 := Vot.setPoll ho195 hqb8w159 hps8 hk230 (show Blk _ _ (PollS.cells { q8 with t := tv235 }) _ from hn232)
    have hs236 : (({ s with cs := GV.delC who ref s.cs }).setP i8 { q8 with t := tv235 }).ps[i8]? = some (some { q8 with t := tv235 }) := List.getElem?_set_self (List.getElem?_eq_some_iff.1 hps8).1
    have hb8lt := hn232.lt
    refine OI_end rfl <| X_block <| X_then <| Vn [8] <| V_ret ?_
    have hE237 : unvE s who ref = 0 := by unfold unvE; rw [if_neg (fun h9 => h9 hc6)]; rw [hpa8]; dsimp only; rw [if_pos (show (GV.getC who ref s.cs).isSome = true from by simpa using hc186)]
    exact Xr (nt 0) ⟨by rw [hE237], ⟨F194, ⟨_, by rw [show unvS s who ref now = (({ s with cs := GV.delC who ref s.cs }).setP i8 { q8 with t := tv235 }) from by unfold unvS; rw [hE237, if_pos rfl, hpa8]; dsimp only; rw [if_pos hc210, show ref.toNat = i8 from by rw [hpr8]; exact Int.toNat_natCast _, htv235]]; exact ho234⟩, rel200⟩, hK0⟩
   refine V_seq <| Vd1 (acts [5]) none_ [0, 1, 2, 3, 4, 5, 6] fun w239 hk238 he240 K243 _ => ?_
   replace hb179_184 := hb179_184.k0 hk238
   replace hm203 := hm203.k0 hk238
   replace hK0 := hK0.tn hk238
   replace ho195 := ho195.keep hk238 nk
   have qhb179_184 := hb179_184
   have qhm203 := hm203
   refine Ma 0 (Vt.cells ((GV.getC who ref s.cs).getD Vt.zero)) 6 qhb179_184 id (take_all (Vt.len _)) (Vt.len _) <| Gn [4, 5, 6] [3, 9, 10, 11, 72, 75] <| Mr 4 (nt ((q8).state)) qhm203 <| Hg (won_spec ((GV.getC who ref s.cs).getD Vt.zero) ((q8).state) _) ?_
   rintro _ w246 ⟨rfl, hk247⟩
   have K248 := K243.tr (Keep.ofNone hk247)
   refine ⟨_, rfl, K248, ?_⟩
   have hzK248 := Keep.size K248
   have hsz249 := Keep.size hk247
   replace hb179_184 := hb179_184.k0 hk247
   replace hm203 := hm203.k0 hk247
   replace hm205 := hm205.k0 (hk238.tr hk247)
   replace hK0 := hK0.tn hk247
   replace ho195 := ho195.keep hk247 nk
   refine Gn [] [3, 9, 10, 11, 71] <| GI_end <| X_then <| Vb (wonV ((GV.getC who ref s.cs).getD Vt.zero) ((q8).state)) (fun hc250 => ?_) (fun hc250 => ?_)
   ·
    refine Vd1 (acts [7, 12]) none_ [5, 6, 7, 0, 1, 2, 3, 4, 8, 9, 10, 11, 12] fun w252 hk251 he253 K256 _ => ?_
    replace hb179_184 := hb179_184.k0 hk251
    replace hm203 := hm203.k0 hk251
    replace hm205 := hm205.k0 hk251
    replace hK0 := hK0.tn hk251
    replace ho195 := ho195.keep hk251 nk
    have qhb179_184 := hb179_184
    have qhm203 := hm203
    refine Gn [6, 7, 0, 1, 2, 3, 4, 8, 9, 10, 11, 12] [3, 9, 10, 11, 83] <| Mr 2 (nt (((GV.getC who ref s.cs).getD Vt.zero).level)) qhb179_184 <| Hq K256 (cvPeriod_spec (((GV.getC who ref s.cs).getD Vt.zero).level) 8 _ (lev_ok hinv (show (GV.getC who ref s.cs).isSome = true from by simpa using hc186) hc250)) <| Gn [4, 8, 9, 10, 11, 12] [3, 11, 78, 81, 85] <| Mr 5 (nt ((q8).stop)) qhm203 <| Gn [10, 11, 12] [3, 78, 86, 87] <| Mr 3 (nt (((GV.getC who ref s.cs).getD Vt.zero).a)) qhb179_184 <| Gn [12] [78, 86, 88, 89] <| GI_final 12 (by kernel_rfl) (by kernel_rfl) <| Kg (joins_spec q149 (some ⟨bd207, 0, none⟩) (s.rc who ((q8).track)) (IntKind.i64.wrap (((q8).stop) + (cvPeriod (((GV.getC who ref s.cs).getD Vt.zero).level) 8))) (((GV.getC who ref s.cs).getD Vt.zero).a) now _ hm205) ?_
    rintro _ w264 ⟨rfl, hn266, hk265⟩
    refine ⟨_, rfl, ?_⟩
    have hsz267 := Keep.size hk265
    replace hK0 := Keep.fresh hK0 hk265 (fun i hi hs => by have hs : F194 i := (by rw [show i = q149 from hs]; exact hF206); rcases rel200 i hs with h | h; exact h; (exfalso; omega))
    have ho268 := Vot.setRec (a := who) (t := ((q8).track)) (r' := (joinR (s.rc who ((q8).track)) (IntKind.i64.wrap (((q8).stop) + (cvPeriod (((GV.getC who ref s.cs).getD Vt.zero).level) 8))) (((GV.getC who ref s.cs).getD Vt.zero).a) now)) (dp := (some ⟨bd207, 0, none⟩)) (dp' := (some ⟨bd207, 0, none⟩)) ho195 hgc154 hm205 hk265 (show Blk _ _ (RecS.cells (some ⟨bd207, 0, none⟩) (joinR (s.rc who ((q8).track)) (IntKind.i64.wrap (((q8).stop) + (cvPeriod (((GV.getC who ref s.cs).getD Vt.zero).level) 8))) (((GV.getC who ref s.cs).getD Vt.zero).a) now)) _ from hn266) (.inl ⟨rfl, by first | rfl | exact joinR_d _ _ _ _ | (rw [show ({ s with cs := GV.delC who ref s.cs }).rc who ((q8).track) = (s.rc who ((q8).track)) from rfl]) | (rw [show ({ s with cs := GV.delC who ref s.cs }).rc who ((q8).track) = (s.rc who ((q8).track)) from rfl]; exact joinR_d _ _ _ _)⟩)
    obtain ⟨r269, hr269⟩ : ∃ r9 : RecS, r9 = (joinR (s.rc who ((q8).track)) (IntKind.i64.wrap (((q8).stop) + (cvPeriod (((GV.getC who ref s.cs).getD Vt.zero).level) 8))) (((GV.getC who ref s.cs).getD Vt.zero).a) now) := ⟨_, rfl⟩
    replace hn266 : Blk w264 q149 (RecS.cells (some ⟨bd207, 0, none⟩) r269) 141 := by rw [hr269]; exact hn266
    have hq149lt := hn266.lt
    refine OI_end rfl <| X_block <| X_then <| Vn [8] <| V_ret ?_
    have hE270 : unvE s who ref = 0 := by unfold unvE; rw [if_neg (fun h9 => h9 hc6)]; rw [hpa8]; dsimp only; rw [if_pos (show (GV.getC who ref s.cs).isSome = true from by simpa using hc186)]
    exact Xr (nt 0) ⟨by rw [hE270], ⟨F194, ⟨_, by rw [show unvS s who ref now = (({ s with cs := GV.delC who ref s.cs }).setR who ((q8).track) (joinR (s.rc who ((q8).track)) (IntKind.i64.wrap (((q8).stop) + (cvPeriod (((GV.getC who ref s.cs).getD Vt.zero).level) 8))) (((GV.getC who ref s.cs).getD Vt.zero).a) now)) from by unfold unvS; rw [hE270, if_pos rfl, hpa8]; dsimp only; rw [if_neg hc210]; rw [if_pos hc250]]; exact ho268⟩, rel200⟩, hK0⟩
   refine V_skip <| X_block <| X_then <| Vn [8] <| V_ret ?_
   have hE271 : unvE s who ref = 0 := by unfold unvE; rw [if_neg (fun h9 => h9 hc6)]; rw [hpa8]; dsimp only; rw [if_pos (show (GV.getC who ref s.cs).isSome = true from by simpa using hc186)]
   exact Xr (nt 0) ⟨by rw [hE271], ⟨F194, ⟨_, by rw [show unvS s who ref now = ({ s with cs := GV.delC who ref s.cs }) from by unfold unvS; rw [hE271, if_pos rfl, hpa8]; dsimp only; rw [if_neg hc210]; rw [if_neg (by rw [hc250]; decide)]]; exact ho195⟩, rel200⟩, hK0⟩
end Go.Al
