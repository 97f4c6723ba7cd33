/-
  Put together out of 3 texts: Walks of package refer: Service. Walks of package refer: Kill, what is slashed. Walks of package refer: Kill.
-/
import Derived.Test.YtjjfimbihdoknaaGreatReferRefundsB4
namespace Go.Al
open Go Go.RowKit Go.Proofs
section
variable {ts : List Trk} {rs r1 : List Rfm} {now iss ref st : Int} {s : VS} {q : SvS}
theorem begR_len (rs : List Rfm) (of : Int) : (begR ts s now rs of).length = rs.length := by unfold begR; rw [setsN_len]
theorem begK_len (rs : List Rfm) : ∀ k, (begK ts s now rs k).length = rs.length
  | 0 => rfl
  | k + 1 => by show (begR ts s now (begK ts s now rs k) _).length = _; rw [begR_len, begK_len rs k]
theorem svcStep_len (i : Int) (x : Rfm) (q : SvS) : (svcStep ts iss now i x q).rs.length = q.rs.length := by
  unfold svcStep
  split
  · rfl
  · split
    · show (q.rs.set _ _).length = _; rw [List.length_set]
    · show (q.rs.set _ _).length = _; rw [List.length_set]
theorem svcStep_at {k : Nat} (x : Rfm) (q : SvS) {j : Nat} (h : k < j) : (svcStep ts iss now (k : Int) x q).rs[j]? = q.rs[j]? := by
  unfold svcStep
  split
  · rfl
  · split
    · show (q.rs.set _ _)[j]? = _; rw [Int.toNat_natCast, List.getElem?_set_ne (by omega)]
    · show (q.rs.set _ _)[j]? = _; rw [Int.toNat_natCast, List.getElem?_set_ne (by omega)]
theorem svcK_at (q : SvS) : ∀ k, (svcK ts iss now r1 q k).rs.length = q.rs.length ∧ ∀ j, k ≤ j → (svcK ts iss now r1 q k).rs[j]? = q.rs[j]?
  | 0 => ⟨rfl, fun _ _ => rfl⟩
  | k + 1 => by
    obtain ⟨h1, h2⟩ := svcK_at q k
    show ((match r1[k]? with | none => svcK ts iss now r1 q k | some x => svcStep ts iss now k x (svcK ts iss now r1 q k)) : SvS).rs.length = _ ∧ ∀ j, k + 1 ≤ j → ((match r1[k]? with | none => svcK ts iss now r1 q k | some x => svcStep ts iss now k x (svcK ts iss now r1 q k)) : SvS).rs[j]? = _
    cases r1[k]? with
    | none => exact ⟨h1, fun j hj => h2 j (by omega)⟩
    | some x => exact ⟨(svcStep_len _ _ _).trans h1, fun j hj => (svcStep_at _ _ (by omega)).trans (h2 j (by omega))⟩
theorem svcK_step {k : Nat} {x : Rfm} (h : r1[k]? = some x) : svcK ts iss now r1 q (k + 1) = svcStep ts iss now (k : Int) x (svcK ts iss now r1 q k) := by
  show (match r1[k]? with | none => _ | some x => _) = _
  rw [h]
theorem step_skip {i : Int} {x : Rfm} (h : ¬ x.state = 1) : svcStep ts iss now i x q = q := by unfold svcStep; rw [if_pos h]
theorem step_on {i : Int} {x : Rfm} (h : x.state = 1) (h2 : decE ts x (tallyT q.s i) iss now = 0) : svcStep ts iss now i x q = { q with rs := q.rs.set i.toNat (decY ts x (tallyT q.s i) iss now) } := by unfold svcStep; rw [if_neg (fun h9 => h9 h), if_pos h2]
theorem step_end {i : Int} {x : Rfm} (h : x.state = 1) (h2 : ¬ decE ts x (tallyT q.s i) iss now = 0) : svcStep ts iss now i x q = ⟨closeS q.s i (decE ts x (tallyT q.s i) iss now) now, q.rs.set i.toNat (endY q.s (decY ts x (tallyT q.s i) iss now) i (decE ts x (tallyT q.s i) iss now) now), q.out ++ [Evt.mk 1 i (decE ts x (tallyT q.s i) iss now)]⟩ := by unfold svcStep; rw [if_neg (fun h9 => h9 h), if_neg h2]
theorem decY_trk (x : Rfm) (y : Tly) : (decY ts x y iss now).track = x.track := by unfold decY; split <;> rfl
theorem endR_set {y : Rfm} {k : Nat} (hk : k < rs.length) : endR s (rs.set ((k : Int)).toNat y) (k : Int) st now = rs.set ((k : Int)).toNat (endY s y (k : Int) st now) := by
  have e : getA (rs.set ((k : Int)).toNat y) (k : Int) = y := by
    unfold getA getR
    rw [List.length_set, if_pos (by omega), List.getElem?_set_self (by omega)]; rfl
  unfold endR
  rw [e, List.set_set]
theorem svc_out_len (q : SvS) : ∀ k, (svcK ts iss now r1 q k).out.length ≤ q.out.length + k
  | 0 => Nat.le_refl _
  | k + 1 => by
    have h := svc_out_len q k
    show ((match r1[k]? with | none => svcK ts iss now r1 q k | some x => svcStep ts iss now k x (svcK ts iss now r1 q k)) : SvS).out.length ≤ _
    cases r1[k]? with
    | none => show (svcK ts iss now r1 q k).out.length ≤ _; omega
    | some x =>
      show (svcStep ts iss now k x (svcK ts iss now r1 q k)).out.length ≤ _
      unfold svcStep
      split
      · omega
      · split
        · show (svcK ts iss now r1 q k).out.length ≤ _; omega
        · show (_ ++ [_]).length ≤ _; rw [List.length_append, List.length_singleton]; omega
end

set_option maxRecDepth 10000 in
set_option maxHeartbeats 4000000 in
theorem service_spec (H : Nat → Prop) (r g : Nat) (ts : List Trk) (rs : List Rfm) (F : Nat → Prop) (v : Nat) (s : VS) (G : Nat → Prop) (l : Nat) (xs : List Acc) (cs : List Ci) (now : Int) (w : World) (hR : Rfr H w r g ts rs) (hV : VotT F w v s) (hl : Led G w l xs cs) (hHF : ∀ q, H q → ¬ F q) (hHG : ∀ q, H q → ¬ G q) (hFG : ∀ q, F q → ¬ G q) : Calls Tryz.prog 22 #[.pointer (some ⟨r, 0, none⟩), .pointer (some ⟨l, 0, none⟩), .pointer (some ⟨v, 0, none⟩), .int .i64 now] w fun e w' => ∃ A' cap', e = .returned (.slice A' (svcQ ts xs s rs now).out.length cap') ∧ SlT w' 3 Evt.cells A' cap' (svcQ ts xs s rs now).out ∧ (∀ q, inA A' q → w.heap.size ≤ q) ∧ (∃ H' F', Rfr H' w' r g ts (svcQ ts xs s rs now).rs ∧ VotT F' w' v (svcQ ts xs s rs now).s ∧ (∀ q, H' q → H q ∨ w.heap.size ≤ q) ∧ (∀ q, F' q → F q ∨ w.heap.size ≤ q) ∧ (∀ q, H' q → ¬ F' q) ∧ (∀ q, inA A' q → ¬ H' q) ∧ (∀ q, inA A' q → ¬ F' q)) ∧ Keep (fun q => q = g ∨ F q) w w' := by
 have hHlt := Rfr.lt hR
 have hrH := Rfr.at_ hR
 have hgH := Rfr.atg hR
 have hrlt := hHlt _ hrH
 have hglt := hHlt _ hgH
 have hin := Rfr.inn hR
 obtain ⟨A, cap, hr, hA, hAo, hrg⟩ := Rfr.parts hR
 have hAlt := SlT.lt hA
 have hAr : ∀ q, inA A q → q ≠ r ∧ q ≠ g ∧ q < w.heap.size := fun q hq => ⟨(hAo q hq).2.1, (hAo q hq).2.2, hAlt q hq⟩
 have hgo : ∀ q, only g q → q ≠ r ∧ q = g := fun q hq => ⟨fun e => hrg (e.symm.trans hq), hq⟩
 have hgl : ∀ q, only g q → q < w.heap.size := fun q hq => by rw [show q = g from hq]; exact hglt
 have hHo : ∀ q, H q → 0 ≤ q := fun q _ => Nat.zero_le q
 have htl := hin.tl
 have hrl := hin.rl
 have hFlt := VotT.lt hV
 have hvlt := hFlt _ (VotT.at_ hV)
 have hVr : ∀ q, F q → q ≠ r := fun q hq e => hHF r hrH (e ▸ hq)
 have hGlt := Led.lt hl
 have hllt := hGlt _ (Led.at_ hl)
 have hlr : ∀ q, G q → q ≠ r := fun q hq e => hHG r hrH (e ▸ hq)
 have hinv := Led.inv hl
 have hHr : ∀ q, H q → H q ∨ w.heap.size ≤ q := fun _ h => .inl h
 have hFr : ∀ q, F q → F q ∨ w.heap.size ≤ q := fun _ h => .inl h
 have hK0 : Keep (fun q => q = g ∨ F q) w w := Keep.refl _ _
 have hzhK0 := Keep.size hK0
 refine enterM Tryz.func22 rfl [pt r, pt l, pt v, nt now] 77 rfl rfl rfl ?_
 refine V_pick [(0, pt r), (1, pt l), (2, pt v), (3, nt now)] rfl ?_
 refine Vr ?_
 refine OI_box 34 (.tmp 0) (pt r) [pt r] (some 4) (by kernel_rfl) (by kernel_rfl) (by kernel_rfl) ?_
 intro b1 w1 e1 hb1 k1 z1
 have hsz2 := Keep.size k1
 replace hr := hr.keep k1 (fun f => f)
 replace hA := SlT.keep0 hA k1
 replace hR := Rfr.keep hR k1 (fun _ _ f => f)
 replace hV := VotT.keep hV k1 (fun _ _ f => f)
 replace hl := Led.keep hl k1 (fun _ _ f => f)
 replace hK0 := Keep.tr hK0 (Keep.ofNone k1)
 have hb1lt := hb1.lt
 refine OI_box 32 (.tmp 1) (pt l) [pt l] (some 5) (by kernel_rfl) (by kernel_rfl) (by kernel_rfl) ?_
 intro b3 w3 e3 hb3 k3 z3
 have hsz4 := Keep.size k3
 replace hr := hr.keep k3 (fun f => f)
 replace hb1 := hb1.keep k3 (fun f => f)
 replace hA := SlT.keep0 hA k3
 replace hR := Rfr.keep hR k3 (fun _ _ f => f)
 replace hV := VotT.keep hV k3 (fun _ _ f => f)
 replace hl := Led.keep hl k3 (fun _ _ f => f)
 replace hK0 := Keep.tr hK0 (Keep.ofNone k3)
 have hb3lt := hb3.lt
 refine OI_box 33 (.tmp 2) (pt v) [pt v] (some 6) (by kernel_rfl) (by kernel_rfl) (by kernel_rfl) ?_
 intro b5 w5 e5 hb5 k5 z5
 have hsz6 := Keep.size k5
 replace hr := hr.keep k5 (fun f => f)
 replace hb1 := hb1.keep k5 (fun f => f)
 replace hb3 := hb3.keep k5 (fun f => f)
 replace hA := SlT.keep0 hA k5
 replace hR := Rfr.keep hR k5 (fun _ _ f => f)
 replace hV := VotT.keep hV k5 (fun _ _ f => f)
 replace hl := Led.keep hl k5 (fun _ _ f => f)
 replace hK0 := Keep.tr hK0 (Keep.ofNone k5)
 have hb5lt := hb5.lt
 refine OI_box 3 (.tmp 3) (nt now) [nt now] (some 7) (by kernel_rfl) (by kernel_rfl) (by kernel_rfl) ?_
 intro b7 w7 e7 hb7 k7 z7
 have hsz8 := Keep.size k7
 replace hr := hr.keep k7 (fun f => f)
 replace hb1 := hb1.keep k7 (fun f => f)
 replace hb3 := hb3.keep k7 (fun f => f)
 replace hb5 := hb5.keep k7 (fun f => f)
 replace hA := SlT.keep0 hA k7
 replace hR := Rfr.keep hR k7 (fun _ _ f => f)
 replace hV := VotT.keep hV k7 (fun _ _ f => f)
 replace hl := Led.keep hl k7 (fun _ _ f => f)
 replace hK0 := Keep.tr hK0 (Keep.ofNone k7)
 have hb7lt := hb7.lt
 refine Os 5 [(4, pt b1), (5, pt b3), (6, pt b5), (7, pt b7), (8, .slice none 0 0)] ?_
 refine Oe ?_
 refine V_seq ?_
 refine Vr ?_
 refine Oc 34 (.tmp 4) 0 (pt r) (some 15) hb1 rfl ?_
 refine Os 3 [(4, pt b1), (5, pt b3), (6, pt b5), (7, pt b7), (8, .slice none 0 0), (17, .bool false)] ?_
 refine Oc 32 (.tmp 5) 0 (pt l) (some 18) hb3 rfl ?_
 refine Os 7 [(4, pt b1), (5, pt b3), (6, pt b5), (7, pt b7), (8, .slice none 0 0), (21, .bool false)] ?_
 refine Oc 33 (.tmp 6) 0 (pt v) (some 22) hb5 rfl ?_
 refine Os 10 [(4, pt b1), (5, pt b3), (6, pt b5), (7, pt b7), (8, .slice none 0 0), (24, .bool false)] ?_
 refine Oe ?_
 refine V_false rfl ?_
 refine V_skip ?_
 refine X_then ?_
 refine V_seq ?_
 refine Vr ?_
 refine Oc 34 (.tmp 4) 0 (pt r) (some 25) hb1 rfl ?_
 refine Os 3 [(4, pt b1), (5, pt b3), (6, pt b5), (7, pt b7), (8, .slice none 0 0), (27, pt r)] ?_
 refine Oc 29 (.tmp 27) 0 (.slice A ts.length cap) (some 28) hr rfl ?_
 refine Os 6 [(4, pt b1), (5, pt b3), (6, pt b5), (7, pt b7), (8, .slice none 0 0), (29, nt ((ts.length : Nat) : Int)), (30, nt 0)] ?_
 refine Oe ?_
 refine V_block ?_
 refine V_pick [(4, pt b1), (5, pt b3), (6, pt b5), (7, pt b7), (8, .slice none 0 0), (29, nt ((ts.length : Nat) : Int)), (30, nt 0)] rfl ?_
 refine V_loop (fun k wI e => ∃ i : Nat, ∃ Hi : Nat → Prop, (k + i = ts.length) ∧ (Rfr Hi wI r g ts (begK ts s now rs i)) ∧ (∀ q, Hi q → 0 ≤ q ∧ q ≠ b1 ∧ q ≠ b3 ∧ q ≠ b5 ∧ q ≠ b7) ∧ (∀ q, Hi q → H q ∨ w.heap.size ≤ q) ∧ (∀ q, Hi q → ¬ F q) ∧ (∀ q, Hi q → ¬ G q) ∧ Keep (only g) w7 wI ∧ e = [(4, pt b1), (5, pt b3), (6, pt b5), (7, pt b7), (8, .slice none 0 0), (29, nt ((ts.length : Nat) : Int)), (30, nt ((i : Nat) : Int))]) ts.length ⟨0, H, by omega, hR, (fun q hq => by have h1 := hHo q hq; have h2 := hHlt q hq; omega), hHr, hHF, hHG, Keep.refl _ _, rfl⟩ ?_
 rintro k10 w9 _ ⟨i, Hi, hki, hRi, hHio, hHifr, hHiF, hHiG, hk11, rfl⟩
 have hsz12 := Keep.size hk11
 replace hr := hr.keep hk11 (fun hs => by have h1 := hgo _ hs; have h2 := hgl _ hs; omega)
 replace hb1 := hb1.keep hk11 (fun hs => by have h1 := hgo _ hs; have h2 := hgl _ hs; omega)
 replace hb3 := hb3.keep hk11 (fun hs => by have h1 := hgo _ hs; have h2 := hgl _ hs; omega)
 replace hb5 := hb5.keep hk11 (fun hs => by have h1 := hgo _ hs; have h2 := hgl _ hs; omega)
 replace hb7 := hb7.keep hk11 (fun hs => by have h1 := hgo _ hs; have h2 := hgl _ hs; omega)
 replace hA := SlT.keep hA hk11 (fun q hq hs => (fun q h1 h2 => (hAo q h2).2.2 h1) q hs hq)
 replace hV := VotT.keep hV hk11 (fun q hq hs => (fun q h1 h2 => hHF q (by rw [show q = g from h1]; exact hgH) h2) q hs hq)
 replace hl := Led.keep hl hk11 (fun q hq hs => (fun q h1 h2 => hHG q (by rw [show q = g from h1]; exact hgH) h2) q hs hq)
 replace hK0 := Keep.fresh hK0 hk11 (by intro i hi hs; first | exact hs | (exfalso; have h1 := hgo i hs; have h2 := hgl i hs; omega) | (have h1 := hgo i hs; have h2 := hgl i hs; show _ ∨ _; omega))
 have hzhk11 := Keep.size hk11
 have lt13 := Rfr.lt hRi
 refine Vr ?_
 refine Os 1 [(4, pt b1), (5, pt b3), (6, pt b5), (7, pt b7), (8, .slice none 0 0), (29, nt ((ts.length : Nat) : Int)), (30, nt ((i : Nat) : Int)), (31, .bool (decide (((i : Nat) : Int) < ((ts.length : Nat) : Int))))] ?_
 refine Oe ?_
 refine V_seq ?_
 refine V_if (((i : Nat) : Int) < ((ts.length : Nat) : Int)) (by kernel_rfl) (fun hc14 => ?_) (fun hc14 => ?_)
 ·
  have hki2 : i < ts.length := by omega
  refine V_skip ?_
  refine X_then ?_
  refine V_seq ?_
  refine V_block ?_
  refine Vr ?_
  refine Os 2 [(4, pt b1), (5, pt b3), (6, pt b5), (7, pt b7), (8, .slice none 0 0), (9, nt ((i : Nat) : Int)), (29, nt ((ts.length : Nat) : Int)), (30, nt ((i : Nat) : Int))] ?_
  refine Oe ?_
  refine V_region ?_
  refine Oc 34 (.tmp 4) 0 (pt r) (some 33) hb1 rfl ?_
  refine Oc 33 (.tmp 6) 0 (pt v) (some 34) hb5 rfl ?_
  refine Os 3 [(4, pt b1), (5, pt b3), (6, pt b5), (7, pt b7), (8, .slice none 0 0), (29, nt ((ts.length : Nat) : Int)), (30, nt ((i : Nat) : Int)), (33, pt r), (34, pt v), (35, nt ((i : Nat) : Int))] ?_
  refine Oc 3 (.tmp 7) 0 (nt now) (some 36) hb7 rfl ?_
  refine Ok { callee := (Callee.value (Operand.func 49)), args := #[(Operand.tmp 33), (Operand.tmp 34), (Operand.tmp 35), (Operand.tmp 36)], argTypes := #[34, 33, 3, 3] } 49 #[pt r, pt v, nt ((i : Nat) : Int), nt now] (some 37) (begins_spec Hi r g ts (begK ts s now rs i) F v s i now _ hRi hV hHiF hki2) ?_
  rintro _ w17 ⟨rfl, ⟨H19, ho20, hfr21⟩, hk18⟩
  refine ⟨_, rfl, ?_⟩
  have hsz22 := Keep.size hk18
  replace hr := hr.keep hk18 (fun hs => by have h1 := hgo _ hs; have h2 := hgl _ hs; omega)
  replace hb1 := hb1.keep hk18 (fun hs => by have h1 := hgo _ hs; have h2 := hgl _ hs; omega)
  replace hb3 := hb3.keep hk18 (fun hs => by have h1 := hgo _ hs; have h2 := hgl _ hs; omega)
  replace hb5 := hb5.keep hk18 (fun hs => by have h1 := hgo _ hs; have h2 := hgl _ hs; omega)
  replace hb7 := hb7.keep hk18 (fun hs => by have h1 := hgo _ hs; have h2 := hgl _ hs; omega)
  replace hA := SlT.keep hA hk18 (fun q hq hs => (fun q h1 h2 => (hAo q h2).2.2 h1) q hs hq)
  replace hV := VotT.keep hV hk18 (fun q hq hs => (fun q h1 h2 => hHiF q (by rw [show q = g from h1]; exact (Rfr.atg hRi)) h2) q hs hq)
  replace hl := Led.keep hl hk18 (fun q hq hs => (fun q h1 h2 => hHiG q (by rw [show q = g from h1]; exact (Rfr.atg hRi)) h2) q hs hq)
  replace hK0 := Keep.fresh hK0 hk18 (by intro i hi hs; first | exact hs | (exfalso; have h1 := hgo i hs; have h2 := hgl i hs; omega) | (have h1 := hgo i hs; have h2 := hgl i hs; show _ ∨ _; omega))
  replace hk11 := Keep.fresh hk11 hk18 (by intro i hi hs; first | exact hs | (exfalso; have h1 := hgo i hs; have h2 := hgl i hs; omega) | (have h1 := hgo i hs; have h2 := hgl i hs; show _ ∨ _; omega))
  have own24 : ∀ q, H19 q → 0 ≤ q ∧ q ≠ b1 ∧ q ≠ b3 ∧ q ≠ b5 ∧ q ≠ b7 := fun q hq => by rcases hfr21 q hq with h | h; (have h1 := hHio q h; have h2 := lt13 q h; omega); omega
  have lt23 := Rfr.lt ho20
  have rel25 : ∀ q, H19 q → H q ∨ w.heap.size ≤ q := fun q hq => by rcases hfr21 q hq with h | h; exact hHifr q h; exact .inr (by omega)
  have dis26 : ∀ q, H19 q → ¬ F q := fun q h1 h2 => by rcases hfr21 q h1 with h | h; exact hHiF q h h2; (have h4 := hFlt q h2; omega)
  have dis27 : ∀ q, H19 q → ¬ G q := fun q h1 h2 => by rcases hfr21 q h1 with h | h; exact hHiG q h h2; (have h4 := hGlt q h2; omega)
  refine OI_end rfl ?_
  refine X_block ?_
  refine X_then ?_
  refine V_region ?_
  have hw28 : IntKind.i64.wrap (((i : Nat) : Int) + 1) = ((i + 1 : Nat) : Int) := (wrap64_id (by omega) (by omega)).trans (by omega)
  refine Os 1 [(4, pt b1), (5, pt b3), (6, pt b5), (7, pt b7), (8, .slice none 0 0), (29, nt ((ts.length : Nat) : Int)), (38, nt (IntKind.i64.wrap (((i : Nat) : Int) + 1)))] ?_
  refine OI_eq [(4, pt b1), (5, pt b3), (6, pt b5), (7, pt b7), (8, .slice none 0 0), (29, nt ((ts.length : Nat) : Int)), (38, nt ((i + 1 : Nat) : Int))] (by rw [hw28]) ?_
  refine Os 2 [(4, pt b1), (5, pt b3), (6, pt b5), (7, pt b7), (8, .slice none 0 0), (29, nt ((ts.length : Nat) : Int)), (30, nt ((i + 1 : Nat) : Int))] ?_
  refine OI_end rfl ?_
  exact V_again (k10 - 1) (by omega) [(4, pt b1), (5, pt b3), (6, pt b5), (7, pt b7), (8, .slice none 0 0), (29, nt ((ts.length : Nat) : Int)), (30, nt ((i + 1 : Nat) : Int))] rfl ⟨i + 1, H19, by omega, ho20, (fun q hq => by have h1 := own24 q hq; have h2 := lt23 q hq; omega), rel25, dis26, dis27, hk11, rfl⟩
 refine V_exit ?_
 refine X_exit_then ?_
 refine X_exit_then ?_
 refine X_exit_here ?_
 refine X_then ?_
 refine Vr ?_
 refine OI_alloc 50 (.slice none 0 0) [.slice none 0 0] (some 10) (by kernel_rfl) (by kernel_rfl) (by kernel_rfl) ?_
 intro b29 w29 e29 hb29 k29 z29
 have hsz30 := Keep.size k29
 replace hr := hr.keep k29 (fun f => f)
 replace hb1 := hb1.keep k29 (fun f => f)
 replace hb3 := hb3.keep k29 (fun f => f)
 replace hb5 := hb5.keep k29 (fun f => f)
 replace hb7 := hb7.keep k29 (fun f => f)
 replace hA := SlT.keep0 hA k29
 replace hV := VotT.keep hV k29 (fun _ _ f => f)
 replace hl := Led.keep hl k29 (fun _ _ f => f)
 replace hK0 := Keep.tr hK0 (Keep.ofNone k29)
 replace hRi := Rfr.keep hRi k29 (fun _ _ f => f)
 have hb29lt := hb29.lt
 refine Oe ?_
 refine V_seq ?_
 refine Vr ?_
 refine Oc 34 (.tmp 4) 0 (pt r) (some 39) hb1 rfl ?_
 refine Ok { callee := (Callee.value (Operand.func 48)), args := #[(Operand.tmp 39)], argTypes := #[34] } 48 #[pt r] (some 40) (all_at r g _ _ _ _ hr) ?_
 rintro _ w33 ⟨bg35, bs36, bn37, rfl, hbg35, hbs36, hbn37, hk34, hgebg35, hgebs36, hgebn37⟩
 refine ⟨_, rfl, ?_⟩
 have hsz38 := Keep.size hk34
 replace hr := hr.keep hk34 (fun f => f)
 replace hb1 := hb1.keep hk34 (fun f => f)
 replace hb3 := hb3.keep hk34 (fun f => f)
 replace hb5 := hb5.keep hk34 (fun f => f)
 replace hb7 := hb7.keep hk34 (fun f => f)
 replace hb29 := hb29.keep hk34 (fun f => f)
 replace hA := SlT.keep0 hA hk34
 replace hV := VotT.keep hV hk34 (fun _ _ f => f)
 replace hl := Led.keep hl hk34 (fun _ _ f => f)
 replace hK0 := Keep.tr hK0 (Keep.ofNone hk34)
 replace hRi := Rfr.keep hRi hk34 (fun _ _ f => f)
 have hbg35lt := hbg35.lt
 have hbs36lt := hbs36.lt
 have hbn37lt := hbn37.lt
 refine Oe ?_
 refine V_block ?_
 have hie : i = ts.length := by omega
 obtain ⟨r1, hr1⟩ : ∃ q, q = begK ts s now rs ts.length := ⟨_, rfl⟩
 rw [hie, ← hr1] at hRi
 have hr1l : r1.length = rs.length := by rw [hr1, begK_len]
 obtain ⟨D, hD9, hDH⟩ := Rfr.grqF hRi
 obtain ⟨_, _, _, _, A2, cap2, hat2, hAD2⟩ := hD9
 have hA2 := hat2.sl
 have owA2 : ∀ q, inA A2 q → q ≠ g ∧ q < w33.heap.size ∧ q ≠ b1 ∧ q ≠ b3 ∧ q ≠ b5 ∧ q ≠ b7 ∧ q ≠ b29 ∧ q ≠ bg35 ∧ q ≠ bs36 ∧ q ≠ bn37 := fun q hq => by have h1 := hHio q (hDH q (hAD2 q hq)); have h2 := lt13 q (hDH q (hAD2 q hq)); exact ⟨fun e => hat2.off (e ▸ hq), by omega⟩
 refine V_pick [(4, pt b1), (5, pt b3), (6, pt b5), (7, pt b7), (10, pt b29), (40, .func (.func 183) #[] #[pt bg35, pt bs36, pt bn37])] rfl ?_
 have hN0 : w.heap.size ≤ w33.heap.size := Keep.size hK0
 refine V_range2 (gf := 183) (caps := #[pt bg35, pt bs36, pt bn37]) (m := r1.length) (by kernel_rfl) (by kernel_rfl) (by kernel_rfl) (alongQ bg35 bs36 bn37 g cap2 A2 r1 (by omega)) (⟨hbg35, hat2, ⟨hbs36, hbn37, hA2⟩⟩) (fun W W' h k => ⟨h.1.quiet k, h.2.1.quiet k, h.2.2.quiet k⟩) (GQ.enc2_size _) (fun M1 k W => ∃ Ak : Option Addr, ∃ capk : Nat, ∃ Hk : Nat → Prop, ∃ Fk : Nat → Prop, (Blk W r [.slice A ts.length cap, pt g] 97) ∧ (Blk W b1 [pt r] 34) ∧ (Blk W b3 [pt l] 32) ∧ (Blk W b5 [pt v] 33) ∧ (Blk W b7 [nt now] 3) ∧ (Blk W bs36 [nt 0] 3) ∧ (Blk W bn37 [nt 0] 3) ∧ (SlT W 18 Trk.cells A cap ts) ∧ (SlT W 47 GQ.Ci.cells A2 cap2 (cellsQ 0 r1)) ∧ (Led G W l xs cs) ∧ (Keep (fun q => q = g ∨ F q) w W) ∧ (Blk W b29 [.slice Ak ((svcK ts (tot xs) now r1 ⟨s, r1, []⟩ k).out.length) capk] 50) ∧ (SlT W 3 Evt.cells Ak capk ((svcK ts (tot xs) now r1 ⟨s, r1, []⟩ k).out)) ∧ (Rfr Hk W r g ts (svcK ts (tot xs) now r1 ⟨s, r1, []⟩ k).rs) ∧ (VotT Fk W v (svcK ts (tot xs) now r1 ⟨s, r1, []⟩ k).s) ∧ (∀ q, inA Ak q → M1 ≤ q) ∧ (∀ q, Hk q → (q < w33.heap.size ∨ M1 ≤ q) ∧ q ≠ b1 ∧ q ≠ b3 ∧ q ≠ b5 ∧ q ≠ b7 ∧ q ≠ b29 ∧ q ≠ bs36 ∧ q ≠ bn37) ∧ (∀ q, Hk q → H q ∨ w.heap.size ≤ q) ∧ (∀ q, Fk q → (q < w33.heap.size ∨ M1 ≤ q) ∧ q ≠ r ∧ q ≠ b1 ∧ q ≠ b3 ∧ q ≠ b5 ∧ q ≠ b7 ∧ q ≠ b29 ∧ q ≠ bs36 ∧ q ≠ bn37) ∧ (∀ q, Fk q → F q ∨ w.heap.size ≤ q) ∧ (∀ q, Hk q → ¬ Fk q) ∧ (∀ q, Hk q → ¬ G q) ∧ (∀ q, Fk q → ¬ G q) ∧ (∀ q, Fk q → ¬ inA A2 q) ∧ (∀ q, Fk q → ¬ inA A q) ∧ (∀ q, inA Ak q → ¬ Hk q) ∧ (∀ q, inA Ak q → ¬ Fk q)) (fun M1 c k W => False) (fun M1 k W W' h hk => by obtain ⟨Ak, capk, Hk, Fk, jr, jb1, jb3, jb5, jb7, jbs36, jbn37, jA, jA2, jhl, jhK0, jb29, jAk, jR, jV, ownk, hHko, hHkr, hFko, hFkr, dHF, dHG, dFG, dFA2, dFA, dAkH, dAkF⟩ := h; exact ⟨Ak, capk, Hk, Fk, jr.quiet hk, jb1.quiet hk, jb3.quiet hk, jb5.quiet hk, jb7.quiet hk, jbs36.quiet hk, jbn37.quiet hk, jA.quiet hk, jA2.quiet hk, Led.quiet jhl hk, jhK0.quiet hk (by omega), jb29.quiet hk, jAk.quiet hk, Rfr.quiet jR hk, VotT.quiet jV hk, ownk, hHko, hHkr, hFko, hFkr, dHF, dHG, dFG, dFA2, dFA, dAkH, dAkF⟩) (fun _ _ _ _ _ h _ => h.elim) (fun M1 hM1 => ⟨none, 0, Hi, F, hr, hb1, hb3, hb5, hb7, hbs36, hbn37, hA, hA2, hl, hK0, hb29, SlT.nil _ _ _, hRi, hV, fun q h => (inA_none h).elim, (fun q hq => by have h1 := hHio q hq; have h2 := lt13 q hq; omega), hHifr, (fun q hq => by have h1 := hVr q hq; have h2 := hFlt q hq; omega), hFr, hHiF, hHiG, hFG, (fun q h1 h2 => hHiF q (hDH q (hAD2 q h2)) h1), (fun q h1 h2 => hHF q (hAo q h2).1 h1), fun q h => (inA_none h).elim, fun q h => (inA_none h).elim⟩) (fun M1 k W h => by obtain ⟨Ak, capk, Hk, Fk, jr, jb1, jb3, jb5, jb7, jbs36, jbn37, jA, jA2, jhl, jhK0, jb29, jAk, jR, jV, ownk, hHko, hHkr, hFko, hFkr, dHF, dHG, dFG, dFA2, dFA, dAkH, dAkF⟩ := h; exact ⟨jbs36, jbn37, jA2⟩) ?_ ?_ (fun _ _ _ _ _ _ _ _ h _ => h.elim)
 ·
  intro lp D M1 k W hD hl hM hMW hkm ⟨Ak, capk, Hk, Fk, jr, jb1, jb3, jb5, jb7, jbs36, jbn37, jA, jA2, jhl, jhK0, jb29, jAk, jR, jV, ownk, hHko, hHkr, hFko, hFkr, dHF, dHG, dFG, dFA2, dFA, dAkH, dAkF⟩ ⟨rr, hrr⟩ hDD
  have hzjhK0 := Keep.size jhK0
  have hrlt := jr.lt
  have hb1lt := jb1.lt
  have hb3lt := jb3.lt
  have hb5lt := jb5.lt
  have hb7lt := jb7.lt
  have hb29lt := jb29.lt
  have hbs36lt := jbs36.lt
  have hbn37lt := jbn37.lt
  have ltjA := SlT.lt jA
  have ltjA2 := SlT.lt jA2
  have ltjAk := SlT.lt jAk
  have lt39 := Rfr.lt jR
  have lt40 := VotT.lt jV
  obtain ⟨x, hx⟩ : ∃ x, r1[k]? = some x := ⟨_, List.getElem?_eq_getElem (by omega)⟩
  rw [GQ.enc2_at (zipQ_at0 hx)]
  obtain ⟨hql, hqa⟩ := svcK_at (ts := ts) (iss := (tot xs)) (now := now) (r1 := r1) ⟨s, r1, []⟩ k
  have hqx := (hqa k (Nat.le_refl _)).trans hx
  have hxt := (Rfr.inn jR).rtk x (List.mem_of_getElem? hqx)
  have hstp := svcK_step (ts := ts) (iss := (tot xs)) (now := now) (q := ⟨s, r1, []⟩) hx
  replace hql : (svcK ts (tot xs) now r1 ⟨s, r1, []⟩ k).rs.length = r1.length := hql
  have hol := svc_out_len (ts := ts) (iss := (tot xs)) (now := now) (r1 := r1) ⟨s, r1, []⟩ k
  replace hol : (svcK ts (tot xs) now r1 ⟨s, r1, []⟩ k).out.length ≤ 0 + k := hol
  have hkl : k < r1.length := hkm
  refine V_pick [(4, pt b1), (5, pt b3), (6, pt b5), (7, pt b7), (10, pt b29), (41, nt ((k : Nat) : Int)), (42, .agg (Rfm.cells x).toArray)] rfl ?_
  have hfen : Keep (fen w33.heap.size M1) W W := Keep.refl _ _
  have hzhfen := Keep.size hfen
  refine Vr ?_
  refine Os 1 [(4, pt b1), (5, pt b3), (6, pt b5), (7, pt b7), (10, pt b29), (11, nt ((k : Nat) : Int)), (42, .agg (Rfm.cells x).toArray)] ?_
  refine Oe ?_
  refine V_region ?_
  refine OI_alloc 57 (.agg (Rfm.cells Rfm.zero).toArray) (Rfm.cells Rfm.zero) (some 12) (by kernel_rfl) (by kernel_rfl) (by kernel_rfl) ?_
  intro b41 w41 e41 hb41 k41 z41
  have hsz42 := Keep.size k41
  replace jr := jr.keep k41 (fun f => f)
  replace jb1 := jb1.keep k41 (fun f => f)
  replace jb3 := jb3.keep k41 (fun f => f)
  replace jb5 := jb5.keep k41 (fun f => f)
  replace jb7 := jb7.keep k41 (fun f => f)
  replace jb29 := jb29.keep k41 (fun f => f)
  replace jbs36 := jbs36.keep k41 (fun f => f)
  replace jbn37 := jbn37.keep k41 (fun f => f)
  replace jA := SlT.keep0 jA k41
  replace jA2 := SlT.keep0 jA2 k41
  replace jAk := SlT.keep0 jAk k41
  replace jhl := Led.keep jhl k41 (fun _ _ f => f)
  replace jhK0 := Keep.tr jhK0 (Keep.ofNone k41)
  replace jR := Rfr.keep jR k41 (fun _ _ f => f)
  replace jV := VotT.keep jV k41 (fun _ _ f => f)
  replace hfen := Keep.tr hfen (Keep.ofNone k41)
  have hb41lt := hb41.lt
  refine OI_set (m := 45) (kd := true) 57 (.tmp 12) (.tmp 42) 0 (.agg (Rfm.cells x).toArray) (Rfm.cells x) none (by kernel_rfl) (by kernel_rfl) (by kernel_rfl) hb41 (by kernel_rfl) rfl (Rfm.len _) (Nat.le_of_ble_eq_true (by kernel_rfl)) (Rfm.one _) ?_
  intro w43 hb41_46 hk44 hz45
  replace hb41_46 : Blk w43 b41 (Rfm.cells x) 57 := (Blk.eqL (Rfm.over _ _) hb41_46)
  have hsz47 := Keep.size hk44
  replace jr := jr.keep hk44 (by show ¬ (_ = _); omega)
  replace jb1 := jb1.keep hk44 (by show ¬ (_ = _); omega)
  replace jb3 := jb3.keep hk44 (by show ¬ (_ = _); omega)
  replace jb5 := jb5.keep hk44 (by show ¬ (_ = _); omega)
  replace jb7 := jb7.keep hk44 (by show ¬ (_ = _); omega)
  replace jb29 := jb29.keep hk44 (by show ¬ (_ = _); omega)
  replace jbs36 := jbs36.keep hk44 (by show ¬ (_ = _); omega)
  replace jbn37 := jbn37.keep hk44 (by show ¬ (_ = _); omega)
  replace jA := SlT.keep jA hk44 (fun q hq hs => by have hs : q = b41 := hs; have g0 := hAr q hq; have g1 := ltjA q hq; omega)
  replace jA2 := SlT.keep jA2 hk44 (fun q hq hs => by have hs : q = b41 := hs; have g0 := owA2 q hq; have g1 := ltjA2 q hq; omega)
  replace jAk := SlT.keep jAk hk44 (fun q hq hs => by have hs : q = b41 := hs; have g0 := ownk q hq; have g1 := ltjAk q hq; omega)
  replace jhl := Led.keep jhl hk44 (fun q hq hs => by have hs : q = b41 := hs; have g0 := hlr q hq; have g1 := hGlt q hq; omega)
  replace jhK0 := Keep.fresh jhK0 hk44 (by intro i hi hs; first | exact hs | exact Or.inl hs | exact Or.inr hs | (exfalso; have hs2 : i = b41 := hs; omega))
  replace jR := Rfr.keep jR hk44 (fun q hq hs => by have hs : q = b41 := hs; have g0 := hHko q hq; have g1 := lt39 q hq; omega)
  replace jV := VotT.keep jV hk44 (fun q hq hs => by have hs : q = b41 := hs; have g0 := hFko q hq; have g1 := lt40 q hq; omega)
  replace hfen := Keep.fresh hfen hk44 (by intro i hi hs; have hs2 : i = b41 := hs; show _ ∨ _; omega)
  refine OI_end rfl ?_
  refine X_begin2 hfen ?_
  intro W2 hk2 ⟨r2, hr2⟩ hD2
  have hsz48 := Keep.size hk2
  replace jr := Blk.quiet jr hk2
  replace jb1 := Blk.quiet jb1 hk2
  replace jb3 := Blk.quiet jb3 hk2
  replace jb5 := Blk.quiet jb5 hk2
  replace jb7 := Blk.quiet jb7 hk2
  replace jb29 := Blk.quiet jb29 hk2
  replace jbs36 := Blk.quiet jbs36 hk2
  replace jbn37 := Blk.quiet jbn37 hk2
  replace hb41_46 := Blk.quiet hb41_46 hk2
  replace jA := SlT.quiet jA hk2
  replace jA2 := SlT.quiet jA2 hk2
  replace jAk := SlT.quiet jAk hk2
  replace jhl := Led.quiet jhl hk2
  replace jhK0 := Keep.quiet jhK0 hk2 (by omega)
  replace jR := Rfr.quiet jR hk2
  replace jV := VotT.quiet jV hk2
  have hzhk2 := Keep.size hk2
  have hfenb : Keep (fen w33.heap.size M1) W2 W2 := Keep.refl _ _
  have hzhfenb := Keep.size hfenb
  refine V_block ?_
  refine V_seq ?_
  refine Vr ?_
  refine Os 1 [(4, pt b1), (5, pt b3), (6, pt b5), (7, pt b7), (10, pt b29), (11, nt ((k : Nat) : Int)), (12, pt b41), (43, pt b41)] ?_
  refine Oc 3 (.tmp 43) 0 (nt x.state) (some 44) hb41_46 rfl ?_
  refine Os 3 [(4, pt b1), (5, pt b3), (6, pt b5), (7, pt b7), (10, pt b29), (11, nt ((k : Nat) : Int)), (12, pt b41), (45, .bool (!(decide (x.state = 1))))] ?_
  refine Oe ?_
  refine V_not (x.state = 1) (by kernel_rfl) (fun hc49 => ?_) (fun hc49 => ?_)
  ·
   refine V_exit ?_
   refine X_exit_then ?_
   refine X_exit_here ?_
   have hq9 := hstp.trans (step_skip hc49)
   exact fun a _ => ⟨hfenb, Ak, capk, Hk, Fk, jr, jb1, jb3, jb5, jb7, jbs36, jbn37, jA, jA2, jhl, jhK0, by rw [hq9]; exact jb29, by rw [hq9]; exact jAk, by rw [hq9]; exact jR, by rw [hq9]; exact jV, ownk, (fun q hq => by have h1 := hHko q hq; have h2 := lt39 q hq; omega), hHkr, (fun q hq => by have h1 := hFko q hq; have h2 := lt40 q hq; omega), hFkr, dHF, dHG, dFG, dFA2, dFA, dAkH, dAkF⟩
  refine V_skip ?_
  refine X_then ?_
  refine V_seqJ (fun wI e => ∃ b13 : Nat, (Blk wI b13 (Rfm.cells (decY ts x (tallyT ((svcK ts (tot xs) now r1 ⟨s, r1, []⟩ k).s) ((k : Nat) : Int)) (tot xs) now)) 57) ∧ (W2.heap.size ≤ b13) ∧ Keep none_ W2 wI ∧ e = [(4, pt b1), (6, pt b5), (7, pt b7), (10, pt b29), (11, nt ((k : Nat) : Int)), (13, pt b13), (14, nt (decE ts x (tallyT ((svcK ts (tot xs) now r1 ⟨s, r1, []⟩ k).s) ((k : Nat) : Int)) (tot xs) now))]) ?_ ?_
  ·
   have hk50 : Keep none_ W2 W2 := Keep.refl _ _
   refine V_draws (acts [4, 6, 8, 12, 13]) none_ [[2, 3, 4, 5, 6, 0, 1, 7, 8, 12, 9, 10, 13, 11, 14], [2, 3, 4, 5, 6, 12, 0, 1, 7, 8, 9, 10, 13, 11, 14], [2, 3, 4, 12, 5, 6, 0, 1, 7, 8, 9, 10, 13, 11, 14], [12, 2, 3, 4, 5, 6, 0, 1, 7, 8, 9, 10, 13, 11, 14]] (by kernel_rfl) (by repeat first | exact (by first | exact sure_postM | exact sure_rQ2 | exact sure_no) | refine sure_then ?_ | refine sure_block ?_ | refine sure_join ?_) (by kernel_rfl) ?_
   intro w52 hk51 he53 L hL54
   have hsz55 := Keep.size hk51
   replace jr := jr.keep hk51 (fun f => f)
   replace jb1 := jb1.keep hk51 (fun f => f)
   replace jb3 := jb3.keep hk51 (fun f => f)
   replace jb5 := jb5.keep hk51 (fun f => f)
   replace jb7 := jb7.keep hk51 (fun f => f)
   replace jb29 := jb29.keep hk51 (fun f => f)
   replace jbs36 := jbs36.keep hk51 (fun f => f)
   replace jbn37 := jbn37.keep hk51 (fun f => f)
   replace hb41_46 := hb41_46.keep hk51 (fun f => f)
   replace jA := SlT.keep0 jA hk51
   replace jA2 := SlT.keep0 jA2 hk51
   replace jAk := SlT.keep0 jAk hk51
   replace jhl := Led.keep jhl hk51 (fun _ _ f => f)
   replace jhK0 := Keep.tr jhK0 (Keep.ofNone hk51)
   replace jR := Rfr.keep jR hk51 (fun _ _ f => f)
   replace jV := VotT.keep jV hk51 (fun _ _ f => f)
   replace hfenb := Keep.tr hfenb (Keep.ofNone hk51)
   replace hk50 := Keep.tr hk50 (Keep.ofNone hk51)
   have qjr := jr
   have qjb1 := jb1
   have qjb3 := jb3
   have qjb5 := jb5
   have qjb7 := jb7
   have qjb29 := jb29
   have qjbs36 := jbs36
   have qjbn37 := jbn37
   have qhb41_46 := hb41_46
   have K56 : Keep none_ w52 w52 := Keep.refl _ _
   simp only [List.mem_cons, List.not_mem_nil, or_false] at hL54
   rcases hL54 with rfl | rfl | rfl | rfl
   ·
    refine Gc0 33 (.tmp 6) 0 (pt v) (some 49) qjb5 rfl ?_
    refine Gs [4, 5, 6, 0, 1, 7, 8, 12, 9, 10, 13, 11, 14] [(4, pt b1), (5, pt b3), (6, pt b5), (7, pt b7), (10, pt b29), (11, nt ((k : Nat) : Int)), (12, pt b41), (49, pt v), (50, nt ((k : Nat) : Int))] ?_
    refine Gk { callee := (Callee.value (Operand.func 32)), args := #[(Operand.tmp 49), (Operand.tmp 50)], argTypes := #[33, 3] } 32 #[pt v, nt ((k : Nat) : Int)] (some 51) (tally_spec Fk v ((svcK ts (tot xs) now r1 ⟨s, r1, []⟩ k).s) ((k : Nat) : Int) _ (jV).1) ?_
    rintro _ w59 ⟨rfl, hk60⟩
    have K61 := K56.tr (Keep.ofNone hk60)
    refine ⟨_, rfl, K61, ?_⟩
    have hzK61 := Keep.size K61
    have hsz62 := Keep.size hk60
    replace jr := jr.keep hk60 (fun f => f)
    replace jb1 := jb1.keep hk60 (fun f => f)
    replace jb3 := jb3.keep hk60 (fun f => f)
    replace jb5 := jb5.keep hk60 (fun f => f)
    replace jb7 := jb7.keep hk60 (fun f => f)
    replace jb29 := jb29.keep hk60 (fun f => f)
    replace jbs36 := jbs36.keep hk60 (fun f => f)
    replace jbn37 := jbn37.keep hk60 (fun f => f)
    replace hb41_46 := hb41_46.keep hk60 (fun f => f)
    replace jA := SlT.keep0 jA hk60
    replace jA2 := SlT.keep0 jA2 hk60
    replace jAk := SlT.keep0 jAk hk60
    replace jhl := Led.keep jhl hk60 (fun _ _ f => f)
    replace jhK0 := Keep.tr jhK0 (Keep.ofNone hk60)
    replace jR := Rfr.keep jR hk60 (fun _ _ f => f)
    replace jV := VotT.keep jV hk60 (fun _ _ f => f)
    replace hfenb := Keep.tr hfenb (Keep.ofNone hk60)
    replace hk50 := Keep.tr hk50 (Keep.ofNone hk60)
    refine Gc0 32 (.tmp 5) 0 (pt l) (some 52) qjb3 rfl ?_
    refine Gk { callee := (Callee.value (Operand.func 51)), args := #[(Operand.tmp 52)], argTypes := #[32] } 51 #[pt l] (some 53) (issued_spec G l xs cs _ jhl) ?_
    rintro _ w65 ⟨rfl, hk66⟩
    have K67 := K61.tr (Keep.ofNone hk66)
    refine ⟨_, rfl, K67, ?_⟩
    have hzK67 := Keep.size K67
    have hsz68 := Keep.size hk66
    replace jr := jr.keep hk66 (fun f => f)
    replace jb1 := jb1.keep hk66 (fun f => f)
    replace jb3 := jb3.keep hk66 (fun f => f)
    replace jb5 := jb5.keep hk66 (fun f => f)
    replace jb7 := jb7.keep hk66 (fun f => f)
    replace jb29 := jb29.keep hk66 (fun f => f)
    replace jbs36 := jbs36.keep hk66 (fun f => f)
    replace jbn37 := jbn37.keep hk66 (fun f => f)
    replace hb41_46 := hb41_46.keep hk66 (fun f => f)
    replace jA := SlT.keep0 jA hk66
    replace jA2 := SlT.keep0 jA2 hk66
    replace jAk := SlT.keep0 jAk hk66
    replace jhl := Led.keep jhl hk66 (fun _ _ f => f)
    replace jhK0 := Keep.tr jhK0 (Keep.ofNone hk66)
    replace jR := Rfr.keep jR hk66 (fun _ _ f => f)
    replace jV := VotT.keep jV hk66 (fun _ _ f => f)
    replace hfenb := Keep.tr hfenb (Keep.ofNone hk66)
    replace hk50 := Keep.tr hk50 (Keep.ofNone hk66)
    refine Gc0 34 (.tmp 4) 0 (pt r) (some 47) qjb1 rfl ?_
    refine Ga 57 (.tmp 12) 0 (Rfm.cells x) (some 48) 45 qhb41_46 (fun f => f) (take_all (Rfm.len _)) (Rfm.len _) ?_
    refine Gc0 3 (.tmp 7) 0 (nt now) (some 54) qjb7 rfl ?_
    refine Gk { callee := (Callee.value (Operand.func 50)), args := #[(Operand.tmp 47), (Operand.tmp 48), (Operand.tmp 51), (Operand.tmp 53), (Operand.tmp 54)], argTypes := #[34, 57, 55, 3, 3] } 50 #[pt r, .agg (Rfm.cells x).toArray, .agg (Tly.cells (tallyT ((svcK ts (tot xs) now r1 ⟨s, r1, []⟩ k).s) ((k : Nat) : Int))).toArray, nt (tot xs), nt now] (some 55) (decides_spec Hk r g ts (svcK ts (tot xs) now r1 ⟨s, r1, []⟩ k).rs x (tallyT ((svcK ts (tot xs) now r1 ⟨s, r1, []⟩ k).s) ((k : Nat) : Int)) (tot xs) now _ jR hxt) ?_
    rintro _ w69 ⟨rfl, hk70⟩
    have K71 := K67.tr (Keep.ofNone hk70)
    refine ⟨_, rfl, K71, ?_⟩
    have hzK71 := Keep.size K71
    have hsz72 := Keep.size hk70
    replace jr := jr.keep hk70 (fun f => f)
    replace jb1 := jb1.keep hk70 (fun f => f)
    replace jb3 := jb3.keep hk70 (fun f => f)
    replace jb5 := jb5.keep hk70 (fun f => f)
    replace jb7 := jb7.keep hk70 (fun f => f)
    replace jb29 := jb29.keep hk70 (fun f => f)
    replace jbs36 := jbs36.keep hk70 (fun f => f)
    replace jbn37 := jbn37.keep hk70 (fun f => f)
    replace hb41_46 := hb41_46.keep hk70 (fun f => f)
    replace jA := SlT.keep0 jA hk70
    replace jA2 := SlT.keep0 jA2 hk70
    replace jAk := SlT.keep0 jAk hk70
    replace jhl := Led.keep jhl hk70 (fun _ _ f => f)
    replace jhK0 := Keep.tr jhK0 (Keep.ofNone hk70)
    replace jR := Rfr.keep jR hk70 (fun _ _ f => f)
    replace jV := VotT.keep jV hk70 (fun _ _ f => f)
    replace hfenb := Keep.tr hfenb (Keep.ofNone hk70)
    replace hk50 := Keep.tr hk50 (Keep.ofNone hk70)
    refine GI_alloc 57 (.agg (Rfm.cells Rfm.zero).toArray) (Rfm.cells Rfm.zero) (some 13) (by kernel_rfl) (by kernel_rfl) K71 (by kernel_rfl) (by kernel_rfl) ?_
    intro b73 w73 e73 hb73 k73 z73 K74
    have hsz75 := Keep.size k73
    replace jr := jr.keep k73 (fun f => f)
    replace jb1 := jb1.keep k73 (fun f => f)
    replace jb3 := jb3.keep k73 (fun f => f)
    replace jb5 := jb5.keep k73 (fun f => f)
    replace jb7 := jb7.keep k73 (fun f => f)
    replace jb29 := jb29.keep k73 (fun f => f)
    replace jbs36 := jbs36.keep k73 (fun f => f)
    replace jbn37 := jbn37.keep k73 (fun f => f)
    replace hb41_46 := hb41_46.keep k73 (fun f => f)
    replace jA := SlT.keep0 jA k73
    replace jA2 := SlT.keep0 jA2 k73
    replace jAk := SlT.keep0 jAk k73
    replace jhl := Led.keep jhl k73 (fun _ _ f => f)
    replace jhK0 := Keep.tr jhK0 (Keep.ofNone k73)
    replace jR := Rfr.keep jR k73 (fun _ _ f => f)
    replace jV := VotT.keep jV k73 (fun _ _ f => f)
    replace hfenb := Keep.tr hfenb (Keep.ofNone k73)
    replace hk50 := Keep.tr hk50 (Keep.ofNone k73)
    have hb73lt := hb73.lt
    refine Gs [13, 11, 14] [(4, pt b1), (6, pt b5), (7, pt b7), (10, pt b29), (11, nt ((k : Nat) : Int)), (13, pt b73), (46, .tuple #[.agg (Rfm.cells (decY ts x (tallyT ((svcK ts (tot xs) now r1 ⟨s, r1, []⟩ k).s) ((k : Nat) : Int)) (tot xs) now)).toArray, nt (decE ts x (tallyT ((svcK ts (tot xs) now r1 ⟨s, r1, []⟩ k).s) ((k : Nat) : Int)) (tot xs) now)]), (56, .agg (Rfm.cells (decY ts x (tallyT ((svcK ts (tot xs) now r1 ⟨s, r1, []⟩ k).s) ((k : Nat) : Int)) (tot xs) now)).toArray)] ?_
    refine GI_set (m := 45) (kd := true) 57 (.tmp 13) (.tmp 56) 0 (.agg (Rfm.cells (decY ts x (tallyT ((svcK ts (tot xs) now r1 ⟨s, r1, []⟩ k).s) ((k : Nat) : Int)) (tot xs) now)).toArray) (Rfm.cells (decY ts x (tallyT ((svcK ts (tot xs) now r1 ⟨s, r1, []⟩ k).s) ((k : Nat) : Int)) (tot xs) now)) none (by kernel_rfl) (by kernel_rfl) (by kernel_rfl) (by kernel_rfl) hb73 (by kernel_rfl) rfl (Rfm.len _) (Nat.le_of_ble_eq_true (by kernel_rfl)) (Rfm.one _) K74 (fun hh => absurd hh (by omega)) ?_
    intro w76 hb73_79 hk77 hz78 K80
    replace hb73_79 : Blk w76 b73 (Rfm.cells (decY ts x (tallyT ((svcK ts (tot xs) now r1 ⟨s, r1, []⟩ k).s) ((k : Nat) : Int)) (tot xs) now)) 57 := (Blk.eqL (Rfm.over _ _) hb73_79)
    have hsz81 := Keep.size hk77
    replace jr := jr.keep hk77 (by show ¬ (_ = _); omega)
    replace jb1 := jb1.keep hk77 (by show ¬ (_ = _); omega)
    replace jb3 := jb3.keep hk77 (by show ¬ (_ = _); omega)
    replace jb5 := jb5.keep hk77 (by show ¬ (_ = _); omega)
    replace jb7 := jb7.keep hk77 (by show ¬ (_ = _); omega)
    replace jb29 := jb29.keep hk77 (by show ¬ (_ = _); omega)
    replace jbs36 := jbs36.keep hk77 (by show ¬ (_ = _); omega)
    replace jbn37 := jbn37.keep hk77 (by show ¬ (_ = _); omega)
    replace hb41_46 := hb41_46.keep hk77 (by show ¬ (_ = _); omega)
    replace jA := SlT.keep jA hk77 (fun q hq hs => by have hs : q = b73 := hs; have g0 := hAr q hq; have g1 := ltjA q hq; omega)
    replace jA2 := SlT.keep jA2 hk77 (fun q hq hs => by have hs : q = b73 := hs; have g0 := owA2 q hq; have g1 := ltjA2 q hq; omega)
    replace jAk := SlT.keep jAk hk77 (fun q hq hs => by have hs : q = b73 := hs; have g0 := ownk q hq; have g1 := ltjAk q hq; omega)
    replace jhl := Led.keep jhl hk77 (fun q hq hs => by have hs : q = b73 := hs; have g0 := hlr q hq; have g1 := hGlt q hq; omega)
    replace jhK0 := Keep.fresh jhK0 hk77 (by intro i hi hs; first | exact hs | exact Or.inl hs | exact Or.inr hs | (exfalso; have hs2 : i = b73 := hs; omega))
    replace jR := Rfr.keep jR hk77 (fun q hq hs => by have hs : q = b73 := hs; have g0 := hHko q hq; have g1 := lt39 q hq; omega)
    replace jV := VotT.keep jV hk77 (fun q hq hs => by have hs : q = b73 := hs; have g0 := hFko q hq; have g1 := lt40 q hq; omega)
    replace hfenb := Keep.fresh hfenb hk77 (by intro i hi hs; have hs2 : i = b73 := hs; show _ ∨ _; omega)
    replace hk50 := Keep.fresh hk50 hk77 (by intro i hi hs; first | exact hs | exact Or.inl hs | exact Or.inr hs | (exfalso; have hs2 : i = b73 := hs; omega))
    refine Gs [] [(4, pt b1), (6, pt b5), (7, pt b7), (10, pt b29), (11, nt ((k : Nat) : Int)), (13, pt b73), (14, nt (decE ts x (tallyT ((svcK ts (tot xs) now r1 ⟨s, r1, []⟩ k).s) ((k : Nat) : Int)) (tot xs) now))] ?_
    refine GI_end ?_
    exact X_join [(4, pt b1), (6, pt b5), (7, pt b7), (10, pt b29), (11, nt ((k : Nat) : Int)), (13, pt b73), (14, nt (decE ts x (tallyT ((svcK ts (tot xs) now r1 ⟨s, r1, []⟩ k).s) ((k : Nat) : Int)) (tot xs) now))] rfl ⟨b73, hb73_79, by omega, hk50, rfl⟩
   ·
    refine Gc0 33 (.tmp 6) 0 (pt v) (some 49) qjb5 rfl ?_
    refine Gs [4, 5, 6, 12, 0, 1, 7, 8, 9, 10, 13, 11, 14] [(4, pt b1), (5, pt b3), (6, pt b5), (7, pt b7), (10, pt b29), (11, nt ((k : Nat) : Int)), (12, pt b41), (49, pt v), (50, nt ((k : Nat) : Int))] ?_
    refine Gk { callee := (Callee.value (Operand.func 32)), args := #[(Operand.tmp 49), (Operand.tmp 50)], argTypes := #[33, 3] } 32 #[pt v, nt ((k : Nat) : Int)] (some 51) (tally_spec Fk v ((svcK ts (tot xs) now r1 ⟨s, r1, []⟩ k).s) ((k : Nat) : Int) _ (jV).1) ?_
    rintro _ w84 ⟨rfl, hk85⟩
    have K86 := K56.tr (Keep.ofNone hk85)
    refine ⟨_, rfl, K86, ?_⟩
    have hzK86 := Keep.size K86
    have hsz87 := Keep.size hk85
    replace jr := jr.keep hk85 (fun f => f)
    replace jb1 := jb1.keep hk85 (fun f => f)
    replace jb3 := jb3.keep hk85 (fun f => f)
    replace jb5 := jb5.keep hk85 (fun f => f)
    replace jb7 := jb7.keep hk85 (fun f => f)
    replace jb29 := jb29.keep hk85 (fun f => f)
    replace jbs36 := jbs36.keep hk85 (fun f => f)
    replace jbn37 := jbn37.keep hk85 (fun f => f)
    replace hb41_46 := hb41_46.keep hk85 (fun f => f)
    replace jA := SlT.keep0 jA hk85
    replace jA2 := SlT.keep0 jA2 hk85
    replace jAk := SlT.keep0 jAk hk85
    replace jhl := Led.keep jhl hk85 (fun _ _ f => f)
    replace jhK0 := Keep.tr jhK0 (Keep.ofNone hk85)
    replace jR := Rfr.keep jR hk85 (fun _ _ f => f)
    replace jV := VotT.keep jV hk85 (fun _ _ f => f)
    replace hfenb := Keep.tr hfenb (Keep.ofNone hk85)
    replace hk50 := Keep.tr hk50 (Keep.ofNone hk85)
    refine Gc0 32 (.tmp 5) 0 (pt l) (some 52) qjb3 rfl ?_
    refine Gk { callee := (Callee.value (Operand.func 51)), args := #[(Operand.tmp 52)], argTypes := #[32] } 51 #[pt l] (some 53) (issued_spec G l xs cs _ jhl) ?_
    rintro _ w90 ⟨rfl, hk91⟩
    have K92 := K86.tr (Keep.ofNone hk91)
    refine ⟨_, rfl, K92, ?_⟩
    have hzK92 := Keep.size K92
    have hsz93 := Keep.size hk91
    replace jr := jr.keep hk91 (fun f => f)
    replace jb1 := jb1.keep hk91 (fun f => f)
    replace jb3 := jb3.keep hk91 (fun f => f)
    replace jb5 := jb5.keep hk91 (fun f => f)
    replace jb7 := jb7.keep hk91 (fun f => f)
    replace jb29 := jb29.keep hk91 (fun f => f)
    replace jbs36 := jbs36.keep hk91 (fun f => f)
    replace jbn37 := jbn37.keep hk91 (fun f => f)
    replace hb41_46 := hb41_46.keep hk91 (fun f => f)
    replace jA := SlT.keep0 jA hk91
    replace jA2 := SlT.keep0 jA2 hk91
    replace jAk := SlT.keep0 jAk hk91
    replace jhl := Led.keep jhl hk91 (fun _ _ f => f)
    replace jhK0 := Keep.tr jhK0 (Keep.ofNone hk91)
    replace jR := Rfr.keep jR hk91 (fun _ _ f => f)
    replace jV := VotT.keep jV hk91 (fun _ _ f => f)
    replace hfenb := Keep.tr hfenb (Keep.ofNone hk91)
    replace hk50 := Keep.tr hk50 (Keep.ofNone hk91)
    refine GI_alloc 57 (.agg (Rfm.cells Rfm.zero).toArray) (Rfm.cells Rfm.zero) (some 13) (by kernel_rfl) (by kernel_rfl) K92 (by kernel_rfl) (by kernel_rfl) ?_
    intro b94 w94 e94 hb94 k94 z94 K95
    have hsz96 := Keep.size k94
    replace jr := jr.keep k94 (fun f => f)
    replace jb1 := jb1.keep k94 (fun f => f)
    replace jb3 := jb3.keep k94 (fun f => f)
    replace jb5 := jb5.keep k94 (fun f => f)
    replace jb7 := jb7.keep k94 (fun f => f)
    replace jb29 := jb29.keep k94 (fun f => f)
    replace jbs36 := jbs36.keep k94 (fun f => f)
    replace jbn37 := jbn37.keep k94 (fun f => f)
    replace hb41_46 := hb41_46.keep k94 (fun f => f)
    replace jA := SlT.keep0 jA k94
    replace jA2 := SlT.keep0 jA2 k94
    replace jAk := SlT.keep0 jAk k94
    replace jhl := Led.keep jhl k94 (fun _ _ f => f)
    replace jhK0 := Keep.tr jhK0 (Keep.ofNone k94)
    replace jR := Rfr.keep jR k94 (fun _ _ f => f)
    replace jV := VotT.keep jV k94 (fun _ _ f => f)
    replace hfenb := Keep.tr hfenb (Keep.ofNone k94)
    replace hk50 := Keep.tr hk50 (Keep.ofNone k94)
    have hb94lt := hb94.lt
    refine Gc0 34 (.tmp 4) 0 (pt r) (some 47) qjb1 rfl ?_
    refine Ga 57 (.tmp 12) 0 (Rfm.cells x) (some 48) 45 qhb41_46 (fun f => f) (take_all (Rfm.len _)) (Rfm.len _) ?_
    refine Gc0 3 (.tmp 7) 0 (nt now) (some 54) qjb7 rfl ?_
    refine Gk { callee := (Callee.value (Operand.func 50)), args := #[(Operand.tmp 47), (Operand.tmp 48), (Operand.tmp 51), (Operand.tmp 53), (Operand.tmp 54)], argTypes := #[34, 57, 55, 3, 3] } 50 #[pt r, .agg (Rfm.cells x).toArray, .agg (Tly.cells (tallyT ((svcK ts (tot xs) now r1 ⟨s, r1, []⟩ k).s) ((k : Nat) : Int))).toArray, nt (tot xs), nt now] (some 55) (decides_spec Hk r g ts (svcK ts (tot xs) now r1 ⟨s, r1, []⟩ k).rs x (tallyT ((svcK ts (tot xs) now r1 ⟨s, r1, []⟩ k).s) ((k : Nat) : Int)) (tot xs) now _ jR hxt) ?_
    rintro _ w97 ⟨rfl, hk98⟩
    have K99 := K95.tr (Keep.ofNone hk98)
    refine ⟨_, rfl, K99, ?_⟩
    have hzK99 := Keep.size K99
    have hsz100 := Keep.size hk98
    replace jr := jr.keep hk98 (fun f => f)
    replace jb1 := jb1.keep hk98 (fun f => f)
    replace jb3 := jb3.keep hk98 (fun f => f)
    replace jb5 := jb5.keep hk98 (fun f => f)
    replace jb7 := jb7.keep hk98 (fun f => f)
    replace jb29 := jb29.keep hk98 (fun f => f)
    replace jbs36 := jbs36.keep hk98 (fun f => f)
    replace jbn37 := jbn37.keep hk98 (fun f => f)
    replace hb41_46 := hb41_46.keep hk98 (fun f => f)
    replace hb94 := hb94.keep hk98 (fun f => f)
    replace jA := SlT.keep0 jA hk98
    replace jA2 := SlT.keep0 jA2 hk98
    replace jAk := SlT.keep0 jAk hk98
    replace jhl := Led.keep jhl hk98 (fun _ _ f => f)
    replace jhK0 := Keep.tr jhK0 (Keep.ofNone hk98)
    replace jR := Rfr.keep jR hk98 (fun _ _ f => f)
    replace jV := VotT.keep jV hk98 (fun _ _ f => f)
    replace hfenb := Keep.tr hfenb (Keep.ofNone hk98)
    replace hk50 := Keep.tr hk50 (Keep.ofNone hk98)
    refine Gs [13, 11, 14] [(4, pt b1), (6, pt b5), (7, pt b7), (10, pt b29), (11, nt ((k : Nat) : Int)), (13, pt b94), (46, .tuple #[.agg (Rfm.cells (decY ts x (tallyT ((svcK ts (tot xs) now r1 ⟨s, r1, []⟩ k).s) ((k : Nat) : Int)) (tot xs) now)).toArray, nt (decE ts x (tallyT ((svcK ts (tot xs) now r1 ⟨s, r1, []⟩ k).s) ((k : Nat) : Int)) (tot xs) now)]), (56, .agg (Rfm.cells (decY ts x (tallyT ((svcK ts (tot xs) now r1 ⟨s, r1, []⟩ k).s) ((k : Nat) : Int)) (tot xs) now)).toArray)] ?_
    refine GI_set (m := 45) (kd := true) 57 (.tmp 13) (.tmp 56) 0 (.agg (Rfm.cells (decY ts x (tallyT ((svcK ts (tot xs) now r1 ⟨s, r1, []⟩ k).s) ((k : Nat) : Int)) (tot xs) now)).toArray) (Rfm.cells (decY ts x (tallyT ((svcK ts (tot xs) now r1 ⟨s, r1, []⟩ k).s) ((k : Nat) : Int)) (tot xs) now)) none (by kernel_rfl) (by kernel_rfl) (by kernel_rfl) (by kernel_rfl) hb94 (by kernel_rfl) rfl (Rfm.len _) (Nat.le_of_ble_eq_true (by kernel_rfl)) (Rfm.one _) K99 (fun hh => absurd hh (by omega)) ?_
    intro w101 hb94_104 hk102 hz103 K105
    replace hb94_104 : Blk w101 b94 (Rfm.cells (decY ts x (tallyT ((svcK ts (tot xs) now r1 ⟨s, r1, []⟩ k).s) ((k : Nat) : Int)) (tot xs) now)) 57 := (Blk.eqL (Rfm.over _ _) hb94_104)
    have hsz106 := Keep.size hk102
    replace jr := jr.keep hk102 (by show ¬ (_ = _); omega)
    replace jb1 := jb1.keep hk102 (by show ¬ (_ = _); omega)
    replace jb3 := jb3.keep hk102 (by show ¬ (_ = _); omega)
    replace jb5 := jb5.keep hk102 (by show ¬ (_ = _); omega)
    replace jb7 := jb7.keep hk102 (by show ¬ (_ = _); omega)
    replace jb29 := jb29.keep hk102 (by show ¬ (_ = _); omega)
    replace jbs36 := jbs36.keep hk102 (by show ¬ (_ = _); omega)
    replace jbn37 := jbn37.keep hk102 (by show ¬ (_ = _); omega)
    replace hb41_46 := hb41_46.keep hk102 (by show ¬ (_ = _); omega)
    replace jA := SlT.keep jA hk102 (fun q hq hs => by have hs : q = b94 := hs; have g0 := hAr q hq; have g1 := ltjA q hq; omega)
    replace jA2 := SlT.keep jA2 hk102 (fun q hq hs => by have hs : q = b94 := hs; have g0 := owA2 q hq; have g1 := ltjA2 q hq; omega)
    replace jAk := SlT.keep jAk hk102 (fun q hq hs => by have hs : q = b94 := hs; have g0 := ownk q hq; have g1 := ltjAk q hq; omega)
    replace jhl := Led.keep jhl hk102 (fun q hq hs => by have hs : q = b94 := hs; have g0 := hlr q hq; have g1 := hGlt q hq; omega)
    replace jhK0 := Keep.fresh jhK0 hk102 (by intro i hi hs; first | exact hs | exact Or.inl hs | exact Or.inr hs | (exfalso; have hs2 : i = b94 := hs; omega))
    replace jR := Rfr.keep jR hk102 (fun q hq hs => by have hs : q = b94 := hs; have g0 := hHko q hq; have g1 := lt39 q hq; omega)
    replace jV := VotT.keep jV hk102 (fun q hq hs => by have hs : q = b94 := hs; have g0 := hFko q hq; have g1 := lt40 q hq; omega)
    replace hfenb := Keep.fresh hfenb hk102 (by intro i hi hs; have hs2 : i = b94 := hs; show _ ∨ _; omega)
    replace hk50 := Keep.fresh hk50 hk102 (by intro i hi hs; first | exact hs | exact Or.inl hs | exact Or.inr hs | (exfalso; have hs2 : i = b94 := hs; omega))
    refine Gs [] [(4, pt b1), (6, pt b5), (7, pt b7), (10, pt b29), (11, nt ((k : Nat) : Int)), (13, pt b94), (14, nt (decE ts x (tallyT ((svcK ts (tot xs) now r1 ⟨s, r1, []⟩ k).s) ((k : Nat) : Int)) (tot xs) now))] ?_
    refine GI_end ?_
    exact X_join [(4, pt b1), (6, pt b5), (7, pt b7), (10, pt b29), (11, nt ((k : Nat) : Int)), (13, pt b94), (14, nt (decE ts x (tallyT ((svcK ts (tot xs) now r1 ⟨s, r1, []⟩ k).s) ((k : Nat) : Int)) (tot xs) now))] rfl ⟨b94, hb94_104, by omega, hk50, rfl⟩
   ·
    refine Gc0 33 (.tmp 6) 0 (pt v) (some 49) qjb5 rfl ?_
    refine Gs [4, 12, 5, 6, 0, 1, 7, 8, 9, 10, 13, 11, 14] [(4, pt b1), (5, pt b3), (6, pt b5), (7, pt b7), (10, pt b29), (11, nt ((k : Nat) : Int)), (12, pt b41), (49, pt v), (50, nt ((k : Nat) : Int))] ?_
    refine Gk { callee := (Callee.value (Operand.func 32)), args := #[(Operand.tmp 49), (Operand.tmp 50)], argTypes := #[33, 3] } 32 #[pt v, nt ((k : Nat) : Int)] (some 51) (tally_spec Fk v ((svcK ts (tot xs) now r1 ⟨s, r1, []⟩ k).s) ((k : Nat) : Int) _ (jV).1) ?_
    rintro _ w109 ⟨rfl, hk110⟩
    have K111 := K56.tr (Keep.ofNone hk110)
    refine ⟨_, rfl, K111, ?_⟩
    have hzK111 := Keep.size K111
    have hsz112 := Keep.size hk110
    replace jr := jr.keep hk110 (fun f => f)
    replace jb1 := jb1.keep hk110 (fun f => f)
    replace jb3 := jb3.keep hk110 (fun f => f)
    replace jb5 := jb5.keep hk110 (fun f => f)
    replace jb7 := jb7.keep hk110 (fun f => f)
    replace jb29 := jb29.keep hk110 (fun f => f)
    replace jbs36 := jbs36.keep hk110 (fun f => f)
    replace jbn37 := jbn37.keep hk110 (fun f => f)
    replace hb41_46 := hb41_46.keep hk110 (fun f => f)
    replace jA := SlT.keep0 jA hk110
    replace jA2 := SlT.keep0 jA2 hk110
    replace jAk := SlT.keep0 jAk hk110
    replace jhl := Led.keep jhl hk110 (fun _ _ f => f)
    replace jhK0 := Keep.tr jhK0 (Keep.ofNone hk110)
    replace jR := Rfr.keep jR hk110 (fun _ _ f => f)
    replace jV := VotT.keep jV hk110 (fun _ _ f => f)
    replace hfenb := Keep.tr hfenb (Keep.ofNone hk110)
    replace hk50 := Keep.tr hk50 (Keep.ofNone hk110)
    refine GI_alloc 57 (.agg (Rfm.cells Rfm.zero).toArray) (Rfm.cells Rfm.zero) (some 13) (by kernel_rfl) (by kernel_rfl) K111 (by kernel_rfl) (by kernel_rfl) ?_
    intro b113 w113 e113 hb113 k113 z113 K114
    have hsz115 := Keep.size k113
    replace jr := jr.keep k113 (fun f => f)
    replace jb1 := jb1.keep k113 (fun f => f)
    replace jb3 := jb3.keep k113 (fun f => f)
    replace jb5 := jb5.keep k113 (fun f => f)
    replace jb7 := jb7.keep k113 (fun f => f)
    replace jb29 := jb29.keep k113 (fun f => f)
    replace jbs36 := jbs36.keep k113 (fun f => f)
    replace jbn37 := jbn37.keep k113 (fun f => f)
    replace hb41_46 := hb41_46.keep k113 (fun f => f)
    replace jA := SlT.keep0 jA k113
    replace jA2 := SlT.keep0 jA2 k113
    replace jAk := SlT.keep0 jAk k113
    replace jhl := Led.keep jhl k113 (fun _ _ f => f)
    replace jhK0 := Keep.tr jhK0 (Keep.ofNone k113)
    replace jR := Rfr.keep jR k113 (fun _ _ f => f)
    replace jV := VotT.keep jV k113 (fun _ _ f => f)
    replace hfenb := Keep.tr hfenb (Keep.ofNone k113)
    replace hk50 := Keep.tr hk50 (Keep.ofNone k113)
    have hb113lt := hb113.lt
    refine Gc0 32 (.tmp 5) 0 (pt l) (some 52) qjb3 rfl ?_
    refine Gk { callee := (Callee.value (Operand.func 51)), args := #[(Operand.tmp 52)], argTypes := #[32] } 51 #[pt l] (some 53) (issued_spec G l xs cs _ jhl) ?_
    rintro _ w118 ⟨rfl, hk119⟩
    have K120 := K114.tr (Keep.ofNone hk119)
    refine ⟨_, rfl, K120, ?_⟩
    have hzK120 := Keep.size K120
    have hsz121 := Keep.size hk119
    replace jr := jr.keep hk119 (fun f => f)
    replace jb1 := jb1.keep hk119 (fun f => f)
    replace jb3 := jb3.keep hk119 (fun f => f)
    replace jb5 := jb5.keep hk119 (fun f => f)
    replace jb7 := jb7.keep hk119 (fun f => f)
    replace jb29 := jb29.keep hk119 (fun f => f)
    replace jbs36 := jbs36.keep hk119 (fun f => f)
    replace jbn37 := jbn37.keep hk119 (fun f => f)
    replace hb41_46 := hb41_46.keep hk119 (fun f => f)
    replace hb113 := hb113.keep hk119 (fun f => f)
    replace jA := SlT.keep0 jA hk119
    replace jA2 := SlT.keep0 jA2 hk119
    replace jAk := SlT.keep0 jAk hk119
    replace jhl := Led.keep jhl hk119 (fun _ _ f => f)
    replace jhK0 := Keep.tr jhK0 (Keep.ofNone hk119)
    replace jR := Rfr.keep jR hk119 (fun _ _ f => f)
    replace jV := VotT.keep jV hk119 (fun _ _ f => f)
    replace hfenb := Keep.tr hfenb (Keep.ofNone hk119)
    replace hk50 := Keep.tr hk50 (Keep.ofNone hk119)
    refine Gc0 34 (.tmp 4) 0 (pt r) (some 47) qjb1 rfl ?_
    refine Ga 57 (.tmp 12) 0 (Rfm.cells x) (some 48) 45 qhb41_46 (fun f => f) (take_all (Rfm.len _)) (Rfm.len _) ?_
    refine Gc0 3 (.tmp 7) 0 (nt now) (some 54) qjb7 rfl ?_
    refine Gk { callee := (Callee.value (Operand.func 50)), args := #[(Operand.tmp 47), (Operand.tmp 48), (Operand.tmp 51), (Operand.tmp 53), (Operand.tmp 54)], argTypes := #[34, 57, 55, 3, 3] } 50 #[pt r, .agg (Rfm.cells x).toArray, .agg (Tly.cells (tallyT ((svcK ts (tot xs) now r1 ⟨s, r1, []⟩ k).s) ((k : Nat) : Int))).toArray, nt (tot xs), nt now] (some 55) (decides_spec Hk r g ts (svcK ts (tot xs) now r1 ⟨s, r1, []⟩ k).rs x (tallyT ((svcK ts (tot xs) now r1 ⟨s, r1, []⟩ k).s) ((k : Nat) : Int)) (tot xs) now _ jR hxt) ?_
    rintro _ w122 ⟨rfl, hk123⟩
    have K124 := K120.tr (Keep.ofNone hk123)
    refine ⟨_, rfl, K124, ?_⟩
    have hzK124 := Keep.size K124
    have hsz125 := Keep.size hk123
    replace jr := jr.keep hk123 (fun f => f)
    replace jb1 := jb1.keep hk123 (fun f => f)
    replace jb3 := jb3.keep hk123 (fun f => f)
    replace jb5 := jb5.keep hk123 (fun f => f)
    replace jb7 := jb7.keep hk123 (fun f => f)
    replace jb29 := jb29.keep hk123 (fun f => f)
    replace jbs36 := jbs36.keep hk123 (fun f => f)
    replace jbn37 := jbn37.keep hk123 (fun f => f)
    replace hb41_46 := hb41_46.keep hk123 (fun f => f)
    replace hb113 := hb113.keep hk123 (fun f => f)
    replace jA := SlT.keep0 jA hk123
    replace jA2 := SlT.keep0 jA2 hk123
    replace jAk := SlT.keep0 jAk hk123
    replace jhl := Led.keep jhl hk123 (fun _ _ f => f)
    replace jhK0 := Keep.tr jhK0 (Keep.ofNone hk123)
    replace jR := Rfr.keep jR hk123 (fun _ _ f => f)
    replace jV := VotT.keep jV hk123 (fun _ _ f => f)
    replace hfenb := Keep.tr hfenb (Keep.ofNone hk123)
    replace hk50 := Keep.tr hk50 (Keep.ofNone hk123)
    refine Gs [13, 11, 14] [(4, pt b1), (6, pt b5), (7, pt b7), (10, pt b29), (11, nt ((k : Nat) : Int)), (13, pt b113), (46, .tuple #[.agg (Rfm.cells (decY ts x (tallyT ((svcK ts (tot xs) now r1 ⟨s, r1, []⟩ k).s) ((k : Nat) : Int)) (tot xs) now)).toArray, nt (decE ts x (tallyT ((svcK ts (tot xs) now r1 ⟨s, r1, []⟩ k).s) ((k : Nat) : Int)) (tot xs) now)]), (56, .agg (Rfm.cells (decY ts x (tallyT ((svcK ts (tot xs) now r1 ⟨s, r1, []⟩ k).s) ((k : Nat) : Int)) (tot xs) now)).toArray)] ?_
    refine GI_set (m := 45) (kd := true) 57 (.tmp 13) (.tmp 56) 0 (.agg (Rfm.cells (decY ts x (tallyT ((svcK ts (tot xs) now r1 ⟨s, r1, []⟩ k).s) ((k : Nat) : Int)) (tot xs) now)).toArray) (Rfm.cells (decY ts x (tallyT ((svcK ts (tot xs) now r1 ⟨s, r1, []⟩ k).s) ((k : Nat) : Int)) (tot xs) now)) none (by kernel_rfl) (by kernel_rfl) (by kernel_rfl) (by kernel_rfl) hb113 (by kernel_rfl) rfl (Rfm.len _) (Nat.le_of_ble_eq_true (by kernel_rfl)) (Rfm.one _) K124 (fun hh => absurd hh (by omega)) ?_
    intro w126 hb113_129 hk127 hz128 K130
    replace hb113_129 : Blk w126 b113 (Rfm.cells (decY ts x (tallyT ((svcK ts (tot xs) now r1 ⟨s, r1, []⟩ k).s) ((k : Nat) : Int)) (tot xs) now)) 57 := (Blk.eqL (Rfm.over _ _) hb113_129)
    have hsz131 := Keep.size hk127
    replace jr := jr.keep hk127 (by show ¬ (_ = _); omega)
    replace jb1 := jb1.keep hk127 (by show ¬ (_ = _); omega)
    replace jb3 := jb3.keep hk127 (by show ¬ (_ = _); omega)
    replace jb5 := jb5.keep hk127 (by show ¬ (_ = _); omega)
    replace jb7 := jb7.keep hk127 (by show ¬ (_ = _); omega)
    replace jb29 := jb29.keep hk127 (by show ¬ (_ = _); omega)
    replace jbs36 := jbs36.keep hk127 (by show ¬ (_ = _); omega)
    replace jbn37 := jbn37.keep hk127 (by show ¬ (_ = _); omega)
    replace hb41_46 := hb41_46.keep hk127 (by show ¬ (_ = _); omega)
    replace jA := SlT.keep jA hk127 (fun q hq hs => by have hs : q = b113 := hs; have g0 := hAr q hq; have g1 := ltjA q hq; omega)
    replace jA2 := SlT.keep jA2 hk127 (fun q hq hs => by have hs : q = b113 := hs; have g0 := owA2 q hq; have g1 := ltjA2 q hq; omega)
    replace jAk := SlT.keep jAk hk127 (fun q hq hs => by have hs : q = b113 := hs; have g0 := ownk q hq; have g1 := ltjAk q hq; omega)
    replace jhl := Led.keep jhl hk127 (fun q hq hs => by have hs : q = b113 := hs; have g0 := hlr q hq; have g1 := hGlt q hq; omega)
    replace jhK0 := Keep.fresh jhK0 hk127 (by intro i hi hs; first | exact hs | exact Or.inl hs | exact Or.inr hs | (exfalso; have hs2 : i = b113 := hs; omega))
    replace jR := Rfr.keep jR hk127 (fun q hq hs => by have hs : q = b113 := hs; have g0 := hHko q hq; have g1 := lt39 q hq; omega)
    replace jV := VotT.keep jV hk127 (fun q hq hs => by have hs : q = b113 := hs; have g0 := hFko q hq; have g1 := lt40 q hq; omega)
    replace hfenb := Keep.fresh hfenb hk127 (by intro i hi hs; have hs2 : i = b113 := hs; show _ ∨ _; omega)
    replace hk50 := Keep.fresh hk50 hk127 (by intro i hi hs; first | exact hs | exact Or.inl hs | exact Or.inr hs | (exfalso; have hs2 : i = b113 := hs; omega))
    refine Gs [] [(4, pt b1), (6, pt b5), (7, pt b7), (10, pt b29), (11, nt ((k : Nat) : Int)), (13, pt b113), (14, nt (decE ts x (tallyT ((svcK ts (tot xs) now r1 ⟨s, r1, []⟩ k).s) ((k : Nat) : Int)) (tot xs) now))] ?_
    refine GI_end ?_
    exact X_join [(4, pt b1), (6, pt b5), (7, pt b7), (10, pt b29), (11, nt ((k : Nat) : Int)), (13, pt b113), (14, nt (decE ts x (tallyT ((svcK ts (tot xs) now r1 ⟨s, r1, []⟩ k).s) ((k : Nat) : Int)) (tot xs) now))] rfl ⟨b113, hb113_129, by omega, hk50, rfl⟩
   ·
    refine GI_alloc 57 (.agg (Rfm.cells Rfm.zero).toArray) (Rfm.cells Rfm.zero) (some 13) (by kernel_rfl) (by kernel_rfl) K56 (by kernel_rfl) (by kernel_rfl) ?_
    intro b132 w132 e132 hb132 k132 z132 K133
    have hsz134 := Keep.size k132
    replace jr := jr.keep k132 (fun f => f)
    replace jb1 := jb1.keep k132 (fun f => f)
    replace jb3 := jb3.keep k132 (fun f => f)
    replace jb5 := jb5.keep k132 (fun f => f)
    replace jb7 := jb7.keep k132 (fun f => f)
    replace jb29 := jb29.keep k132 (fun f => f)
    replace jbs36 := jbs36.keep k132 (fun f => f)
    replace jbn37 := jbn37.keep k132 (fun f => f)
    replace hb41_46 := hb41_46.keep k132 (fun f => f)
    replace jA := SlT.keep0 jA k132
    replace jA2 := SlT.keep0 jA2 k132
    replace jAk := SlT.keep0 jAk k132
    replace jhl := Led.keep jhl k132 (fun _ _ f => f)
    replace jhK0 := Keep.tr jhK0 (Keep.ofNone k132)
    replace jR := Rfr.keep jR k132 (fun _ _ f => f)
    replace jV := VotT.keep jV k132 (fun _ _ f => f)
    replace hfenb := Keep.tr hfenb (Keep.ofNone k132)
    replace hk50 := Keep.tr hk50 (Keep.ofNone k132)
    have hb132lt := hb132.lt
    refine Gc0 33 (.tmp 6) 0 (pt v) (some 49) qjb5 rfl ?_
    refine Gs [4, 5, 6, 0, 1, 7, 8, 9, 10, 13, 11, 14] [(4, pt b1), (5, pt b3), (6, pt b5), (7, pt b7), (10, pt b29), (11, nt ((k : Nat) : Int)), (12, pt b41), (13, pt b132), (49, pt v), (50, nt ((k : Nat) : Int))] ?_
    refine Gk { callee := (Callee.value (Operand.func 32)), args := #[(Operand.tmp 49), (Operand.tmp 50)], argTypes := #[33, 3] } 32 #[pt v, nt ((k : Nat) : Int)] (some 51) (tally_spec Fk v ((svcK ts (tot xs) now r1 ⟨s, r1, []⟩ k).s) ((k : Nat) : Int) _ (jV).1) ?_
    rintro _ w137 ⟨rfl, hk138⟩
    have K139 := K133.tr (Keep.ofNone hk138)
    refine ⟨_, rfl, K139, ?_⟩
    have hzK139 := Keep.size K139
    have hsz140 := Keep.size hk138
    replace jr := jr.keep hk138 (fun f => f)
    replace jb1 := jb1.keep hk138 (fun f => f)
    replace jb3 := jb3.keep hk138 (fun f => f)
    replace jb5 := jb5.keep hk138 (fun f => f)
    replace jb7 := jb7.keep hk138 (fun f => f)
    replace jb29 := jb29.keep hk138 (fun f => f)
    replace jbs36 := jbs36.keep hk138 (fun f => f)
    replace jbn37 := jbn37.keep hk138 (fun f => f)
    replace hb41_46 := hb41_46.keep hk138 (fun f => f)
    replace hb132 := hb132.keep hk138 (fun f => f)
    replace jA := SlT.keep0 jA hk138
    replace jA2 := SlT.keep0 jA2 hk138
    replace jAk := SlT.keep0 jAk hk138
    replace jhl := Led.keep jhl hk138 (fun _ _ f => f)
    replace jhK0 := Keep.tr jhK0 (Keep.ofNone hk138)
    replace jR := Rfr.keep jR hk138 (fun _ _ f => f)
    replace jV := VotT.keep jV hk138 (fun _ _ f => f)
    replace hfenb := Keep.tr hfenb (Keep.ofNone hk138)
    replace hk50 := Keep.tr hk50 (Keep.ofNone hk138)
    refine Gc0 32 (.tmp 5) 0 (pt l) (some 52) qjb3 rfl ?_
    refine Gk { callee := (Callee.value (Operand.func 51)), args := #[(Operand.tmp 52)], argTypes := #[32] } 51 #[pt l] (some 53) (issued_spec G l xs cs _ jhl) ?_
    rintro _ w143 ⟨rfl, hk144⟩
    have K145 := K139.tr (Keep.ofNone hk144)
    refine ⟨_, rfl, K145, ?_⟩
    have hzK145 := Keep.size K145
    have hsz146 := Keep.size hk144
    replace jr := jr.keep hk144 (fun f => f)
    replace jb1 := jb1.keep hk144 (fun f => f)
    replace jb3 := jb3.keep hk144 (fun f => f)
    replace jb5 := jb5.keep hk144 (fun f => f)
    replace jb7 := jb7.keep hk144 (fun f => f)
    replace jb29 := jb29.keep hk144 (fun f => f)
    replace jbs36 := jbs36.keep hk144 (fun f => f)
    replace jbn37 := jbn37.keep hk144 (fun f => f)
    replace hb41_46 := hb41_46.keep hk144 (fun f => f)
    replace hb132 := hb132.keep hk144 (fun f => f)
    replace jA := SlT.keep0 jA hk144
    replace jA2 := SlT.keep0 jA2 hk144
    replace jAk := SlT.keep0 jAk hk144
    replace jhl := Led.keep jhl hk144 (fun _ _ f => f)
    replace jhK0 := Keep.tr jhK0 (Keep.ofNone hk144)
    replace jR := Rfr.keep jR hk144 (fun _ _ f => f)
    replace jV := VotT.keep jV hk144 (fun _ _ f => f)
    replace hfenb := Keep.tr hfenb (Keep.ofNone hk144)
    replace hk50 := Keep.tr hk50 (Keep.ofNone hk144)
    refine Gc0 34 (.tmp 4) 0 (pt r) (some 47) qjb1 rfl ?_
    refine Ga 57 (.tmp 12) 0 (Rfm.cells x) (some 48) 45 qhb41_46 (fun f => f) (take_all (Rfm.len _)) (Rfm.len _) ?_
    refine Gc0 3 (.tmp 7) 0 (nt now) (some 54) qjb7 rfl ?_
    refine Gk { callee := (Callee.value (Operand.func 50)), args := #[(Operand.tmp 47), (Operand.tmp 48), (Operand.tmp 51), (Operand.tmp 53), (Operand.tmp 54)], argTypes := #[34, 57, 55, 3, 3] } 50 #[pt r, .agg (Rfm.cells x).toArray, .agg (Tly.cells (tallyT ((svcK ts (tot xs) now r1 ⟨s, r1, []⟩ k).s) ((k : Nat) : Int))).toArray, nt (tot xs), nt now] (some 55) (decides_spec Hk r g ts (svcK ts (tot xs) now r1 ⟨s, r1, []⟩ k).rs x (tallyT ((svcK ts (tot xs) now r1 ⟨s, r1, []⟩ k).s) ((k : Nat) : Int)) (tot xs) now _ jR hxt) ?_
    rintro _ w147 ⟨rfl, hk148⟩
    have K149 := K145.tr (Keep.ofNone hk148)
    refine ⟨_, rfl, K149, ?_⟩
    have hzK149 := Keep.size K149
    have hsz150 := Keep.size hk148
    replace jr := jr.keep hk148 (fun f => f)
    replace jb1 := jb1.keep hk148 (fun f => f)
    replace jb3 := jb3.keep hk148 (fun f => f)
    replace jb5 := jb5.keep hk148 (fun f => f)
    replace jb7 := jb7.keep hk148 (fun f => f)
    replace jb29 := jb29.keep hk148 (fun f => f)
    replace jbs36 := jbs36.keep hk148 (fun f => f)
    replace jbn37 := jbn37.keep hk148 (fun f => f)
    replace hb41_46 := hb41_46.keep hk148 (fun f => f)
    replace hb132 := hb132.keep hk148 (fun f => f)
    replace jA := SlT.keep0 jA hk148
    replace jA2 := SlT.keep0 jA2 hk148
    replace jAk := SlT.keep0 jAk hk148
    replace jhl := Led.keep jhl hk148 (fun _ _ f => f)
    replace jhK0 := Keep.tr jhK0 (Keep.ofNone hk148)
    replace jR := Rfr.keep jR hk148 (fun _ _ f => f)
    replace jV := VotT.keep jV hk148 (fun _ _ f => f)
    replace hfenb := Keep.tr hfenb (Keep.ofNone hk148)
    replace hk50 := Keep.tr hk50 (Keep.ofNone hk148)
    refine Gs [13, 11, 14] [(4, pt b1), (6, pt b5), (7, pt b7), (10, pt b29), (11, nt ((k : Nat) : Int)), (13, pt b132), (46, .tuple #[.agg (Rfm.cells (decY ts x (tallyT ((svcK ts (tot xs) now r1 ⟨s, r1, []⟩ k).s) ((k : Nat) : Int)) (tot xs) now)).toArray, nt (decE ts x (tallyT ((svcK ts (tot xs) now r1 ⟨s, r1, []⟩ k).s) ((k : Nat) : Int)) (tot xs) now)]), (56, .agg (Rfm.cells (decY ts x (tallyT ((svcK ts (tot xs) now r1 ⟨s, r1, []⟩ k).s) ((k : Nat) : Int)) (tot xs) now)).toArray)] ?_
    refine GI_set (m := 45) (kd := true) 57 (.tmp 13) (.tmp 56) 0 (.agg (Rfm.cells (decY ts x (tallyT ((svcK ts (tot xs) now r1 ⟨s, r1, []⟩ k).s) ((k : Nat) : Int)) (tot xs) now)).toArray) (Rfm.cells (decY ts x (tallyT ((svcK ts (tot xs) now r1 ⟨s, r1, []⟩ k).s) ((k : Nat) : Int)) (tot xs) now)) none (by kernel_rfl) (by kernel_rfl) (by kernel_rfl) (by kernel_rfl) hb132 (by kernel_rfl) rfl (Rfm.len _) (Nat.le_of_ble_eq_true (by kernel_rfl)) (Rfm.one _) K149 (fun hh => absurd hh (by omega)) ?_
    intro w151 hb132_154 hk152 hz153 K155
    replace hb132_154 : Blk w151 b132 (Rfm.cells (decY ts x (tallyT ((svcK ts (tot xs) now r1 ⟨s, r1, []⟩ k).s) ((k : Nat) : Int)) (tot xs) now)) 57 := (Blk.eqL (Rfm.over _ _) hb132_154)
    have hsz156 := Keep.size hk152
    replace jr := jr.keep hk152 (by show ¬ (_ = _); omega)
    replace jb1 := jb1.keep hk152 (by show ¬ (_ = _); omega)
    replace jb3 := jb3.keep hk152 (by show ¬ (_ = _); omega)
    replace jb5 := jb5.keep hk152 (by show ¬ (_ = _); omega)
    replace jb7 := jb7.keep hk152 (by show ¬ (_ = _); omega)
    replace jb29 := jb29.keep hk152 (by show ¬ (_ = _); omega)
    replace jbs36 := jbs36.keep hk152 (by show ¬ (_ = _); omega)
    replace jbn37 := jbn37.keep hk152 (by show ¬ (_ = _); omega)
    replace hb41_46 := hb41_46.keep hk152 (by show ¬ (_ = _); omega)
    replace jA := SlT.keep jA hk152 (fun q hq hs => by have hs : q = b132 := hs; have g0 := hAr q hq; have g1 := ltjA q hq; omega)
    replace jA2 := SlT.keep jA2 hk152 (fun q hq hs => by have hs : q = b132 := hs; have g0 := owA2 q hq; have g1 := ltjA2 q hq; omega)
    replace jAk := SlT.keep jAk hk152 (fun q hq hs => by have hs : q = b132 := hs; have g0 := ownk q hq; have g1 := ltjAk q hq; omega)
    replace jhl := Led.keep jhl hk152 (fun q hq hs => by have hs : q = b132 := hs; have g0 := hlr q hq; have g1 := hGlt q hq; omega)
    replace jhK0 := Keep.fresh jhK0 hk152 (by intro i hi hs; first | exact hs | exact Or.inl hs | exact Or.inr hs | (exfalso; have hs2 : i = b132 := hs; omega))
    replace jR := Rfr.keep jR hk152 (fun q hq hs => by have hs : q = b132 := hs; have g0 := hHko q hq; have g1 := lt39 q hq; omega)
    replace jV := VotT.keep jV hk152 (fun q hq hs => by have hs : q = b132 := hs; have g0 := hFko q hq; have g1 := lt40 q hq; omega)
    replace hfenb := Keep.fresh hfenb hk152 (by intro i hi hs; have hs2 : i = b132 := hs; show _ ∨ _; omega)
    replace hk50 := Keep.fresh hk50 hk152 (by intro i hi hs; first | exact hs | exact Or.inl hs | exact Or.inr hs | (exfalso; have hs2 : i = b132 := hs; omega))
    refine Gs [] [(4, pt b1), (6, pt b5), (7, pt b7), (10, pt b29), (11, nt ((k : Nat) : Int)), (13, pt b132), (14, nt (decE ts x (tallyT ((svcK ts (tot xs) now r1 ⟨s, r1, []⟩ k).s) ((k : Nat) : Int)) (tot xs) now))] ?_
    refine GI_end ?_
    exact X_join [(4, pt b1), (6, pt b5), (7, pt b7), (10, pt b29), (11, nt ((k : Nat) : Int)), (13, pt b132), (14, nt (decE ts x (tallyT ((svcK ts (tot xs) now r1 ⟨s, r1, []⟩ k).s) ((k : Nat) : Int)) (tot xs) now))] rfl ⟨b132, hb132_154, by omega, hk50, rfl⟩
  ·
   rintro w157 _ ⟨b13, hb13, hb13g, hk158, rfl⟩
   have hsz159 := Keep.size hk158
   replace jr := jr.keep hk158 (fun f => f)
   replace jb1 := jb1.keep hk158 (fun f => f)
   replace jb3 := jb3.keep hk158 (fun f => f)
   replace jb5 := jb5.keep hk158 (fun f => f)
   replace jb7 := jb7.keep hk158 (fun f => f)
   replace jb29 := jb29.keep hk158 (fun f => f)
   replace jbs36 := jbs36.keep hk158 (fun f => f)
   replace jbn37 := jbn37.keep hk158 (fun f => f)
   replace hb41_46 := hb41_46.keep hk158 (fun f => f)
   replace jA := SlT.keep0 jA hk158
   replace jA2 := SlT.keep0 jA2 hk158
   replace jAk := SlT.keep0 jAk hk158
   replace jhl := Led.keep jhl hk158 (fun _ _ f => f)
   replace jhK0 := Keep.tr jhK0 (Keep.ofNone hk158)
   replace jR := Rfr.keep jR hk158 (fun _ _ f => f)
   replace jV := VotT.keep jV hk158 (fun _ _ f => f)
   replace hfenb := Keep.tr hfenb (Keep.ofNone hk158)
   have hb13lt := hb13.lt
   refine V_seq ?_
   refine V_draws (acts [6]) none_ [[0, 1, 2, 3, 4, 5, 6]] (by kernel_rfl) (by repeat first | exact (by first | exact sure_postM | exact sure_rQ2 | exact sure_no) | refine sure_then ?_ | refine sure_block ?_ | refine sure_join ?_) (by kernel_rfl) ?_
   intro w161 hk160 he162 L hL163
   have hsz164 := Keep.size hk160
   replace jr := jr.keep hk160 (fun f => f)
   replace jb1 := jb1.keep hk160 (fun f => f)
   replace jb3 := jb3.keep hk160 (fun f => f)
   replace jb5 := jb5.keep hk160 (fun f => f)
   replace jb7 := jb7.keep hk160 (fun f => f)
   replace jb29 := jb29.keep hk160 (fun f => f)
   replace jbs36 := jbs36.keep hk160 (fun f => f)
   replace jbn37 := jbn37.keep hk160 (fun f => f)
   replace hb41_46 := hb41_46.keep hk160 (fun f => f)
   replace hb13 := hb13.keep hk160 (fun f => f)
   replace jA := SlT.keep0 jA hk160
   replace jA2 := SlT.keep0 jA2 hk160
   replace jAk := SlT.keep0 jAk hk160
   replace jhl := Led.keep jhl hk160 (fun _ _ f => f)
   replace jhK0 := Keep.tr jhK0 (Keep.ofNone hk160)
   replace jR := Rfr.keep jR hk160 (fun _ _ f => f)
   replace jV := VotT.keep jV hk160 (fun _ _ f => f)
   replace hfenb := Keep.tr hfenb (Keep.ofNone hk160)
   have qjr := jr
   have qjb1 := jb1
   have qjb3 := jb3
   have qjb5 := jb5
   have qjb7 := jb7
   have qjb29 := jb29
   have qjbs36 := jbs36
   have qjbn37 := jbn37
   have qhb41_46 := hb41_46
   have qhb13 := hb13
   have K165 : Keep none_ w161 w161 := Keep.refl _ _
   obtain rfl := List.mem_singleton.1 hL163
   refine Gc0 34 (.tmp 4) 0 (pt r) (some 58) qjb1 rfl ?_
   refine Gs [3, 4, 5, 6] [(4, pt b1), (6, pt b5), (7, pt b7), (10, pt b29), (11, nt ((k : Nat) : Int)), (13, pt b13), (14, nt (decE ts x (tallyT ((svcK ts (tot xs) now r1 ⟨s, r1, []⟩ k).s) ((k : Nat) : Int)) (tot xs) now)), (60, .pointer (some ⟨r, 1, none⟩))] ?_
   refine Gc0 95 (.tmp 60) 1 (pt g) (some 61) qjr rfl ?_
   refine Gs [5, 6] [(4, pt b1), (6, pt b5), (7, pt b7), (10, pt b29), (11, nt ((k : Nat) : Int)), (13, pt b13), (14, nt (decE ts x (tallyT ((svcK ts (tot xs) now r1 ⟨s, r1, []⟩ k).s) ((k : Nat) : Int)) (tot xs) now)), (61, pt g), (62, nt ((k : Nat) : Int))] ?_
   refine Ga 57 (.tmp 13) 0 (Rfm.cells (decY ts x (tallyT ((svcK ts (tot xs) now r1 ⟨s, r1, []⟩ k).s) ((k : Nat) : Int)) (tot xs) now)) (some 63) 45 qhb13 (fun f => f) (take_all (Rfm.len _)) (Rfm.len _) ?_
   refine GI_final 6 (by kernel_rfl) (by kernel_rfl) ?_
   refine Ok { callee := (Callee.value (Operand.func 45)), args := #[(Operand.tmp 61), (Operand.const (Value.int IntKind.i64 0)), (Operand.tmp 62), (Operand.tmp 63)], argTypes := #[95, 3, 3, 57] } 45 #[pt g, nt 0, nt ((k : Nat) : Int), .agg (Rfm.cells (decY ts x (tallyT ((svcK ts (tot xs) now r1 ⟨s, r1, []⟩ k).s) ((k : Nat) : Int)) (tot xs) now)).toArray] (some 64) (rset_spec Hk r g ts (svcK ts (tot xs) now r1 ⟨s, r1, []⟩ k).rs ((k : Nat) : Int) (decY ts x (tallyT ((svcK ts (tot xs) now r1 ⟨s, r1, []⟩ k).s) ((k : Nat) : Int)) (tot xs) now) _ jR (by omega) (by rw [decY_trk]; exact hxt)) ?_
   rintro _ w170 ⟨rfl, ⟨H172, hR173, hfr174⟩, hk171⟩
   refine ⟨_, rfl, ?_⟩
   have hsz175 := Keep.size hk171
   replace jr := jr.keep hk171 (fun hs => by have h1 := hgo _ hs; have h2 := hgl _ hs; omega)
   replace jb1 := jb1.keep hk171 (fun hs => by have h1 := hgo _ hs; have h2 := hgl _ hs; omega)
   replace jb3 := jb3.keep hk171 (fun hs => by have h1 := hgo _ hs; have h2 := hgl _ hs; omega)
   replace jb5 := jb5.keep hk171 (fun hs => by have h1 := hgo _ hs; have h2 := hgl _ hs; omega)
   replace jb7 := jb7.keep hk171 (fun hs => by have h1 := hgo _ hs; have h2 := hgl _ hs; omega)
   replace jb29 := jb29.keep hk171 (fun hs => by have h1 := hgo _ hs; have h2 := hgl _ hs; omega)
   replace jbs36 := jbs36.keep hk171 (fun hs => by have h1 := hgo _ hs; have h2 := hgl _ hs; omega)
   replace jbn37 := jbn37.keep hk171 (fun hs => by have h1 := hgo _ hs; have h2 := hgl _ hs; omega)
   replace hb41_46 := hb41_46.keep hk171 (fun hs => by have h1 := hgo _ hs; have h2 := hgl _ hs; omega)
   replace hb13 := hb13.keep hk171 (fun hs => by have h1 := hgo _ hs; have h2 := hgl _ hs; omega)
   replace jA := SlT.keep jA hk171 (fun q hq hs => (fun q h1 h2 => (hAo q h2).2.2 h1) q hs hq)
   replace jA2 := SlT.keep jA2 hk171 (fun q hq hs => by have g0 := owA2 q hq; have g1 := ltjA2 q hq; have h1 := hgo q hs; have h2 := hgl q hs; omega)
   replace jAk := SlT.keep jAk hk171 (fun q hq hs => (fun q h1 h2 => (fun q h1 h2 => dAkH q h2 h1) q (by rw [show q = g from h1]; exact (Rfr.atg jR)) h2) q hs hq)
   replace jhl := Led.keep jhl hk171 (fun q hq hs => (fun q h1 h2 => dHG q (by rw [show q = g from h1]; exact (Rfr.atg jR)) h2) q hs hq)
   replace jhK0 := Keep.fresh jhK0 hk171 (by intro i hi hs; first | exact hs | (exfalso; have h1 := hgo i hs; have h2 := hgl i hs; omega) | (have h1 := hgo i hs; have h2 := hgl i hs; show _ ∨ _; omega))
   replace jV := VotT.keep jV hk171 (fun q hq hs => (fun q h1 h2 => dHF q (by rw [show q = g from h1]; exact (Rfr.atg jR)) h2) q hs hq)
   replace hfenb := Keep.fresh hfenb hk171 (by intro i hi hs; have h1 := hgo i hs; have h2 := hgl i hs; show _ ∨ _; omega)
   have own177 : ∀ q, H172 q → (q < w33.heap.size ∨ M1 ≤ q) ∧ q ≠ b1 ∧ q ≠ b3 ∧ q ≠ b5 ∧ q ≠ b7 ∧ q ≠ b29 ∧ q ≠ bs36 ∧ q ≠ bn37 ∧ q ≠ b41 ∧ q ≠ b13 := fun q hq => by rcases hfr174 q hq with h | h; (have h1 := hHko q h; have h2 := lt39 q h; omega); omega
   have lt176 := Rfr.lt hR173
   have rel178 : ∀ q, H172 q → H q ∨ w.heap.size ≤ q := fun q hq => by rcases hfr174 q hq with h | h; exact hHkr q h; exact .inr (by omega)
   have dis179 : ∀ q, H172 q → ¬ inA Ak q := fun q h1 h2 => by rcases hfr174 q h1 with h | h; exact (fun q h1 h2 => dAkH q h2 h1) q h h2; (have h4 := ltjAk q h2; omega)
   have dis180 : ∀ q, H172 q → ¬ G q := fun q h1 h2 => by rcases hfr174 q h1 with h | h; exact dHG q h h2; (have h4 := hGlt q h2; omega)
   have dis181 : ∀ q, H172 q → ¬ Fk q := fun q h1 h2 => by rcases hfr174 q h1 with h | h; exact dHF q h h2; (have h4 := lt40 q h2; omega)
   refine Oer ?_
   refine Os 2 [(4, pt b1), (6, pt b5), (7, pt b7), (10, pt b29), (11, nt ((k : Nat) : Int)), (14, nt (decE ts x (tallyT ((svcK ts (tot xs) now r1 ⟨s, r1, []⟩ k).s) ((k : Nat) : Int)) (tot xs) now)), (66, .bool (!(decide (decE ts x (tallyT ((svcK ts (tot xs) now r1 ⟨s, r1, []⟩ k).s) ((k : Nat) : Int)) (tot xs) now = 0))))] ?_
   refine Oe ?_
   refine V_not (decE ts x (tallyT ((svcK ts (tot xs) now r1 ⟨s, r1, []⟩ k).s) ((k : Nat) : Int)) (tot xs) now = 0) (by kernel_rfl) (fun hc182 => ?_) (fun hc182 => ?_)
   ·
    refine V_draws (acts [0, 6, 7, 8, 9]) (fun q => q = g ∨ Fk q) [[0, 1, 2, 3, 4, 5, 6, 7, 8, 9], [1, 2, 3, 4, 5, 6, 0, 7, 8, 9], [1, 2, 3, 4, 5, 6, 7, 0, 8, 9]] (by kernel_rfl) (by repeat first | exact (by first | exact sure_postM | exact sure_rQ2 | exact sure_no) | refine sure_then ?_ | refine sure_block ?_ | refine sure_join ?_) (by kernel_rfl) ?_
    intro w184 hk183 he185 L hL186
    have hsz187 := Keep.size hk183
    replace jr := jr.keep hk183 (fun f => f)
    replace jb1 := jb1.keep hk183 (fun f => f)
    replace jb3 := jb3.keep hk183 (fun f => f)
    replace jb5 := jb5.keep hk183 (fun f => f)
    replace jb7 := jb7.keep hk183 (fun f => f)
    replace jb29 := jb29.keep hk183 (fun f => f)
    replace jbs36 := jbs36.keep hk183 (fun f => f)
    replace jbn37 := jbn37.keep hk183 (fun f => f)
    replace hb41_46 := hb41_46.keep hk183 (fun f => f)
    replace hb13 := hb13.keep hk183 (fun f => f)
    replace jA := SlT.keep0 jA hk183
    replace jA2 := SlT.keep0 jA2 hk183
    replace jAk := SlT.keep0 jAk hk183
    replace jhl := Led.keep jhl hk183 (fun _ _ f => f)
    replace jhK0 := Keep.tr jhK0 (Keep.ofNone hk183)
    replace jV := VotT.keep jV hk183 (fun _ _ f => f)
    replace hfenb := Keep.tr hfenb (Keep.ofNone hk183)
    replace hR173 := Rfr.keep hR173 hk183 (fun _ _ f => f)
    have qjr := jr
    have qjb1 := jb1
    have qjb3 := jb3
    have qjb5 := jb5
    have qjb7 := jb7
    have qjb29 := jb29
    have qjbs36 := jbs36
    have qjbn37 := jbn37
    have qhb41_46 := hb41_46
    have qhb13 := hb13
    have K188 : Keep (fun q => q = g ∨ Fk q) w184 w184 := Keep.refl _ _
    simp only [List.mem_cons, List.not_mem_nil, or_false] at hL186
    rcases hL186 with rfl | rfl | rfl
    ·
     refine GI_cellA 50 (.tmp 10) 0 (.slice Ak ((svcK ts (tot xs) now r1 ⟨s, r1, []⟩ k).out.length) capk) (some 67) (by kernel_rfl) (by kernel_rfl) K188 (by kernel_rfl) jb29 (m := 1) (by kernel_rfl) rfl ?_
     refine Gc 34 (.tmp 4) 0 (pt r) (some 68) qjb1 (fun hs => by rcases hs with hs | hs; omega; (have h1 := hFko _ hs; omega)) rfl ?_
     refine Gc 33 (.tmp 6) 0 (pt v) (some 69) qjb5 (fun hs => by rcases hs with hs | hs; omega; (have h1 := hFko _ hs; omega)) rfl ?_
     refine Gs [5, 6, 7, 8, 9] [(7, pt b7), (10, pt b29), (67, .slice Ak ((svcK ts (tot xs) now r1 ⟨s, r1, []⟩ k).out.length) capk), (68, pt r), (69, pt v), (70, nt ((k : Nat) : Int)), (71, nt (decE ts x (tallyT ((svcK ts (tot xs) now r1 ⟨s, r1, []⟩ k).s) ((k : Nat) : Int)) (tot xs) now))] ?_
     refine Gc 3 (.tmp 7) 0 (nt now) (some 72) qjb7 (fun hs => by rcases hs with hs | hs; omega; (have h1 := hFko _ hs; omega)) rfl ?_
     refine GI_final 6 (by kernel_rfl) (by kernel_rfl) ?_
     refine Ok { callee := (Callee.value (Operand.func 52)), args := #[(Operand.tmp 68), (Operand.tmp 69), (Operand.tmp 70), (Operand.tmp 71), (Operand.tmp 72)], argTypes := #[34, 33, 3, 3, 3] } 52 #[pt r, pt v, nt ((k : Nat) : Int), nt (decE ts x (tallyT ((svcK ts (tot xs) now r1 ⟨s, r1, []⟩ k).s) ((k : Nat) : Int)) (tot xs) now), nt now] (some 73) (ends_spec H172 r g ts ((svcK ts (tot xs) now r1 ⟨s, r1, []⟩ k).rs.set ((k : Nat) : Int).toNat (decY ts x (tallyT ((svcK ts (tot xs) now r1 ⟨s, r1, []⟩ k).s) ((k : Nat) : Int)) (tot xs) now)) Fk v ((svcK ts (tot xs) now r1 ⟨s, r1, []⟩ k).s) ((k : Nat) : Int) (decE ts x (tallyT ((svcK ts (tot xs) now r1 ⟨s, r1, []⟩ k).s) ((k : Nat) : Int)) (tot xs) now) now _ hR173 jV dis181 (getA_len (by rw [List.length_set]; omega))) ?_
     rintro _ w191 ⟨rfl, ⟨F193, F196, ho194, ho197, hfr195, hfr198, hdis199⟩, hk192⟩
     refine ⟨_, rfl, ?_⟩
     have hsz200 := Keep.size hk192
     replace jr := jr.keep hk192 (fun hs => by rcases hs with hs | hs; (have u0 := hgo _ hs; have u1 := hgl _ hs; omega); (have u0 := hFko _ hs; have u1 := lt40 _ hs; omega))
     replace jb1 := jb1.keep hk192 (fun hs => by rcases hs with hs | hs; (have u0 := hgo _ hs; have u1 := hgl _ hs; omega); (have u0 := hFko _ hs; have u1 := lt40 _ hs; omega))
     replace jb3 := jb3.keep hk192 (fun hs => by rcases hs with hs | hs; (have u0 := hgo _ hs; have u1 := hgl _ hs; omega); (have u0 := hFko _ hs; have u1 := lt40 _ hs; omega))
     replace jb5 := jb5.keep hk192 (fun hs => by rcases hs with hs | hs; (have u0 := hgo _ hs; have u1 := hgl _ hs; omega); (have u0 := hFko _ hs; have u1 := lt40 _ hs; omega))
     replace jb7 := jb7.keep hk192 (fun hs => by rcases hs with hs | hs; (have u0 := hgo _ hs; have u1 := hgl _ hs; omega); (have u0 := hFko _ hs; have u1 := lt40 _ hs; omega))
     replace jb29 := jb29.keep hk192 (fun hs => by rcases hs with hs | hs; (have u0 := hgo _ hs; have u1 := hgl _ hs; omega); (have u0 := hFko _ hs; have u1 := lt40 _ hs; omega))
     replace jbs36 := jbs36.keep hk192 (fun hs => by rcases hs with hs | hs; (have u0 := hgo _ hs; have u1 := hgl _ hs; omega); (have u0 := hFko _ hs; have u1 := lt40 _ hs; omega))
     replace jbn37 := jbn37.keep hk192 (fun hs => by rcases hs with hs | hs; (have u0 := hgo _ hs; have u1 := hgl _ hs; omega); (have u0 := hFko _ hs; have u1 := lt40 _ hs; omega))
     replace hb41_46 := hb41_46.keep hk192 (fun hs => by rcases hs with hs | hs; (have u0 := hgo _ hs; have u1 := hgl _ hs; omega); (have u0 := hFko _ hs; have u1 := lt40 _ hs; omega))
     replace hb13 := hb13.keep hk192 (fun hs => by rcases hs with hs | hs; (have u0 := hgo _ hs; have u1 := hgl _ hs; omega); (have u0 := hFko _ hs; have u1 := lt40 _ hs; omega))
     replace jA := SlT.keep jA hk192 (fun q hq hs => by rcases hs with hs | hs; exact (hAo q hq).2.2 hs; exact (fun q h1 h2 => dFA q h2 h1) q hq hs)
     replace jA2 := SlT.keep jA2 hk192 (fun q hq hs => by rcases hs with hs | hs; (have g0 := owA2 q hq; have g1 := ltjA2 q hq; have u9 : q = g := hs; omega); exact (fun q h1 h2 => dFA2 q h2 h1) q hq hs)
     replace jAk := SlT.keep jAk hk192 (fun q hq hs => by rcases hs with hs | hs; exact (fun q h1 h2 => dis179 q h2 h1) q hq (by rw [show q = g from hs]; exact (Rfr.atg hR173)); exact dAkF q hq hs)
     replace jhl := Led.keep jhl hk192 (fun q hq hs => by rcases hs with hs | hs; exact (fun q h1 h2 => dis180 q h2 h1) q hq (by rw [show q = g from hs]; exact (Rfr.atg hR173)); exact (fun q h1 h2 => dFG q h2 h1) q hq hs)
     replace jhK0 := Keep.fresh jhK0 hk192 (fun i hi hs => by rcases hs with hs | hs; (exact .inl hs); (rcases hFkr i hs with h | h; exact .inr <| h; (exfalso; omega)))
     replace hfenb := Keep.fresh hfenb hk192 (by intro i hi hs; rcases hs with hs | hs; (have u0 := hgo i hs; have u1 := hgl i hs; show _ ∨ _; omega); (have u0 := hFko i hs; have u1 := lt40 i hs; show _ ∨ _; omega))
     have own202 : ∀ q, F193 q → (q < w33.heap.size ∨ M1 ≤ q) ∧ q ≠ b1 ∧ q ≠ b3 ∧ q ≠ b5 ∧ q ≠ b7 ∧ q ≠ b29 ∧ q ≠ bs36 ∧ q ≠ bn37 ∧ q ≠ b41 ∧ q ≠ b13 := fun q hq => by rcases hfr195 q hq with h | h; (have h1 := own177 q h; have h2 := lt176 q h; omega); omega
     have lt201 := Rfr.lt ho194
     have rel203 : ∀ q, F193 q → H q ∨ w.heap.size ≤ q := fun q hq => by rcases hfr195 q hq with h | h; exact rel178 q h; exact .inr (by omega)
     have dis204 : ∀ q, F193 q → ¬ inA Ak q := fun q h1 h2 => by rcases hfr195 q h1 with h | h; exact dis179 q h h2; (have h4 := ltjAk q h2; omega)
     have dis205 : ∀ q, F193 q → ¬ G q := fun q h1 h2 => by rcases hfr195 q h1 with h | h; exact dis180 q h h2; (have h4 := hGlt q h2; omega)
     have own207 : ∀ q, F196 q → (q < w33.heap.size ∨ M1 ≤ q) ∧ q ≠ r ∧ q ≠ b1 ∧ q ≠ b3 ∧ q ≠ b5 ∧ q ≠ b7 ∧ q ≠ b29 ∧ q ≠ bs36 ∧ q ≠ bn37 ∧ q ≠ b41 ∧ q ≠ b13 := fun q hq => by rcases hfr198 q hq with h | h; (have h1 := hFko q h; have h2 := lt40 q h; omega); omega
     have lt206 := VotT.lt ho197
     have rel208 : ∀ q, F196 q → F q ∨ w.heap.size ≤ q := fun q hq => by rcases hfr198 q hq with h | h; exact hFkr q h; exact .inr (by omega)
     have dis209 : ∀ q, F196 q → ¬ inA A q := fun q h1 h2 => by rcases hfr198 q h1 with h | h; exact dFA q h h2; (have h4 := ltjA q h2; omega)
     have dis210 : ∀ q, F196 q → ¬ inA A2 q := fun q h1 h2 => by rcases hfr198 q h1 with h | h; exact dFA2 q h h2; (have h4 := ltjA2 q h2; omega)
     have dis211 : ∀ q, F196 q → ¬ inA Ak q := fun q h1 h2 => by rcases hfr198 q h1 with h | h; exact (fun q h1 h2 => dAkF q h2 h1) q h h2; (have h4 := ltjAk q h2; omega)
     have dis212 : ∀ q, F196 q → ¬ G q := fun q h1 h2 => by rcases hfr198 q h1 with h | h; exact dFG q h h2; (have h4 := hGlt q h2; omega)
     refine OI_slit (E := 53) (zv := .agg #[nt 0, nt 0, nt 0]) (sz := 3) (by_ := 24) 50 1 #[(0, (Operand.tmp 73))] [.agg (Evt.cells (Evt.mk 1 ((k : Nat) : Int) (decE ts x (tallyT ((svcK ts (tot xs) now r1 ⟨s, r1, []⟩ k).s) ((k : Nat) : Int)) (tot xs) now))).toArray] (Evt.cells (Evt.mk 1 ((k : Nat) : Int) (decE ts x (tallyT ((svcK ts (tot xs) now r1 ⟨s, r1, []⟩ k).s) ((k : Nat) : Int)) (tot xs) now))) (some 74) (by kernel_rfl) (by kernel_rfl) (by kernel_rfl) (by omega) rfl (by omega) (by intro v hv; obtain rfl := List.mem_singleton.1 hv; show (Evt.cells (Evt.mk 1 ((k : Nat) : Int) (decE ts x (tallyT ((svcK ts (tot xs) now r1 ⟨s, r1, []⟩ k).s) ((k : Nat) : Int)) (tot xs) now))).toArray.size = 3; simp [Evt.len]) (by kernel_rfl) (by show (Evt.cells (Evt.mk 1 ((k : Nat) : Int) (decE ts x (tallyT ((svcK ts (tot xs) now r1 ⟨s, r1, []⟩ k).s) ((k : Nat) : Int)) (tot xs) now))).toArray.toList ++ [] = _; simp) ?_
     intro b213 w213 e213 hb213 k213 z213
     have hsz214 := Keep.size k213
     replace jr := jr.keep k213 (fun f => f)
     replace jb1 := jb1.keep k213 (fun f => f)
     replace jb3 := jb3.keep k213 (fun f => f)
     replace jb5 := jb5.keep k213 (fun f => f)
     replace jb7 := jb7.keep k213 (fun f => f)
     replace jb29 := jb29.keep k213 (fun f => f)
     replace jbs36 := jbs36.keep k213 (fun f => f)
     replace jbn37 := jbn37.keep k213 (fun f => f)
     replace hb41_46 := hb41_46.keep k213 (fun f => f)
     replace hb13 := hb13.keep k213 (fun f => f)
     replace jA := SlT.keep0 jA k213
     replace jA2 := SlT.keep0 jA2 k213
     replace jAk := SlT.keep0 jAk k213
     replace jhl := Led.keep jhl k213 (fun _ _ f => f)
     replace jhK0 := Keep.tr jhK0 (Keep.ofNone k213)
     replace hfenb := Keep.tr hfenb (Keep.ofNone k213)
     replace ho194 := Rfr.keep ho194 k213 (fun _ _ f => f)
     replace ho197 := VotT.keep ho197 k213 (fun _ _ f => f)
     have hb213lt := hb213.lt
     refine OI_append (t := 50) (at2 := 50) (E := 53) (E2 := 53) (sz := 3) (by_ := 24) (zv := .agg #[nt 0, nt 0, nt 0]) (m := ((svcK ts (tot xs) now r1 ⟨s, r1, []⟩ k).out).length) (k := 1) (.tmp 67) (.tmp 74) (.slice Ak ((svcK ts (tot xs) now r1 ⟨s, r1, []⟩ k).out.length) capk) (.slice (some ⟨b213, 0, none⟩) 1 1) (some 75) (by kernel_rfl) (by kernel_rfl) (by kernel_rfl) (by kernel_rfl) (by kernel_rfl) (by kernel_rfl) (by kernel_rfl) (SlT.slr jAk) (slr_one hb213 (Evt.len ((Evt.mk 1 ((k : Nat) : Int) (decE ts x (tallyT ((svcK ts (tot xs) now r1 ⟨s, r1, []⟩ k).s) ((k : Nat) : Int)) (tot xs) now))))) (Evt.one ((Evt.mk 1 ((k : Nat) : Int) (decE ts x (tallyT ((svcK ts (tot xs) now r1 ⟨s, r1, []⟩ k).s) ((k : Nat) : Int)) (tot xs) now)))) (by first | omega | (simp only [List.length_nil]; omega)) (by omega) (by first | omega | (simp only [List.length_nil]; omega)) (by omega) ?_
     intro vv9 w215 hap
     obtain ⟨A215, cap215, rfl, hA215, hk215, own215x⟩ := app_one (f := Evt.cells) (xs := ((svcK ts (tot xs) now r1 ⟨s, r1, []⟩ k).out)) (x := ((Evt.mk 1 ((k : Nat) : Int) (decE ts x (tallyT ((svcK ts (tot xs) now r1 ⟨s, r1, []⟩ k).s) ((k : Nat) : Int)) (tot xs) now)))) (A := Ak) (cap := capk) hap (fun x _ => Evt.len x) (Evt.len _)
     have own215 : ∀ q, inA A215 q → M1 ≤ q := fun q hq => by rcases own215x q hq with h | h; exact ownk q h; (show M1 ≤ q; omega)
     have hsz216 := Keep.size hk215
     replace jr := jr.keep hk215 (fun hs => by have h1 := ownk _ hs; have h2 := ltjAk _ hs; omega)
     replace jb1 := jb1.keep hk215 (fun hs => by have h1 := ownk _ hs; have h2 := ltjAk _ hs; omega)
     replace jb3 := jb3.keep hk215 (fun hs => by have h1 := ownk _ hs; have h2 := ltjAk _ hs; omega)
     replace jb5 := jb5.keep hk215 (fun hs => by have h1 := ownk _ hs; have h2 := ltjAk _ hs; omega)
     replace jb7 := jb7.keep hk215 (fun hs => by have h1 := ownk _ hs; have h2 := ltjAk _ hs; omega)
     replace jb29 := jb29.keep hk215 (fun hs => by have h1 := ownk _ hs; have h2 := ltjAk _ hs; omega)
     replace jbs36 := jbs36.keep hk215 (fun hs => by have h1 := ownk _ hs; have h2 := ltjAk _ hs; omega)
     replace jbn37 := jbn37.keep hk215 (fun hs => by have h1 := ownk _ hs; have h2 := ltjAk _ hs; omega)
     replace hb41_46 := hb41_46.keep hk215 (fun hs => by have h1 := ownk _ hs; have h2 := ltjAk _ hs; omega)
     replace hb13 := hb13.keep hk215 (fun hs => by have h1 := ownk _ hs; have h2 := ltjAk _ hs; omega)
     replace jA := SlT.keep jA hk215 (fun q hq hs => by have g0 := hAr q hq; have g1 := ltjA q hq; have h1 := ownk q hs; have h2 := ltjAk q hs; omega)
     replace jA2 := SlT.keep jA2 hk215 (fun q hq hs => by have g0 := owA2 q hq; have g1 := ltjA2 q hq; have h1 := ownk q hs; have h2 := ltjAk q hs; omega)
     replace jhl := Led.keep jhl hk215 (fun q hq hs => (fun (q : Nat) (h1 : inA Ak q) (h2 : G q) => by have h3 := ownk q h1; have h4 := hGlt q h2; omega) q hs hq)
     replace jhK0 := Keep.fresh jhK0 hk215 (by intro i hi hs; first | exact hs | (exfalso; have h1 := ownk i hs; have h2 := ltjAk i hs; omega) | (have h1 := ownk i hs; have h2 := ltjAk i hs; show _ ∨ _; omega))
     replace hfenb := Keep.fresh hfenb hk215 (by intro i hi hs; have h1 := ownk i hs; have h2 := ltjAk i hs; show _ ∨ _; omega)
     replace ho194 := Rfr.keep ho194 hk215 (fun q hq hs => (fun q h1 h2 => dis204 q h2 h1) q hs hq)
     replace ho197 := VotT.keep ho197 hk215 (fun q hq hs => (fun q h1 h2 => dis211 q h2 h1) q hs hq)
     have lt215 := SlT.lt hA215
     have dis217 : ∀ q, inA A215 q → ¬ G q := fun q h1 h2 => by rcases own215x q h1 with h | h; exact (fun (q : Nat) (h1 : G q) (h2 : inA Ak q) => by have h3 := ownk q h2; have h4 := hGlt q h1; omega) q h2 h; (have h4 := hGlt q h2; omega)
     have dis218 : ∀ q, inA A215 q → ¬ F193 q := fun q h1 h2 => by rcases own215x q h1 with h | h; exact dis204 q h2 h; (have h4 := lt201 q h2; omega)
     have dis219 : ∀ q, inA A215 q → ¬ F196 q := fun q h1 h2 => by rcases own215x q h1 with h | h; exact dis211 q h2 h; (have h4 := lt206 q h2; omega)
     refine OI_set (m := 1) (kd := false) 50 (.tmp 10) (.tmp 75) 0 (.slice A215 (((svcK ts (tot xs) now r1 ⟨s, r1, []⟩ k).out ++ [((Evt.mk 1 ((k : Nat) : Int) (decE ts x (tallyT ((svcK ts (tot xs) now r1 ⟨s, r1, []⟩ k).s) ((k : Nat) : Int)) (tot xs) now)))]).length) cap215) [.slice A215 (((svcK ts (tot xs) now r1 ⟨s, r1, []⟩ k).out ++ [((Evt.mk 1 ((k : Nat) : Int) (decE ts x (tallyT ((svcK ts (tot xs) now r1 ⟨s, r1, []⟩ k).s) ((k : Nat) : Int)) (tot xs) now)))]).length) cap215] none (by kernel_rfl) (by kernel_rfl) (by kernel_rfl) jb29 (by kernel_rfl) (by kernel_rfl) (by kernel_rfl) (Nat.le_of_ble_eq_true (by kernel_rfl)) (by simp [Value.oneCell']) ?_
     intro w220 hb29_223 hk221 hz222
     replace hb29_223 : Blk w220 b29 [.slice A215 (((svcK ts (tot xs) now r1 ⟨s, r1, []⟩ k).out ++ [((Evt.mk 1 ((k : Nat) : Int) (decE ts x (tallyT ((svcK ts (tot xs) now r1 ⟨s, r1, []⟩ k).s) ((k : Nat) : Int)) (tot xs) now)))]).length) cap215] 50 := hb29_223
     have hsz224 := Keep.size hk221
     replace jr := jr.keep hk221 (by show ¬ (_ = _); omega)
     replace jb1 := jb1.keep hk221 (by show ¬ (_ = _); omega)
     replace jb3 := jb3.keep hk221 (by show ¬ (_ = _); omega)
     replace jb5 := jb5.keep hk221 (by show ¬ (_ = _); omega)
     replace jb7 := jb7.keep hk221 (by show ¬ (_ = _); omega)
     replace jbs36 := jbs36.keep hk221 (by show ¬ (_ = _); omega)
     replace jbn37 := jbn37.keep hk221 (by show ¬ (_ = _); omega)
     replace hb41_46 := hb41_46.keep hk221 (by show ¬ (_ = _); omega)
     replace hb13 := hb13.keep hk221 (by show ¬ (_ = _); omega)
     replace jA := SlT.keep jA hk221 (fun q hq hs => by have hs : q = b29 := hs; have g0 := hAr q hq; have g1 := ltjA q hq; omega)
     replace jA2 := SlT.keep jA2 hk221 (fun q hq hs => by have hs : q = b29 := hs; have g0 := owA2 q hq; have g1 := ltjA2 q hq; omega)
     replace hA215 := SlT.keep hA215 hk221 (fun q hq hs => by have hs : q = b29 := hs; have g0 := own215 q hq; have g1 := lt215 q hq; omega)
     replace jhl := Led.keep jhl hk221 (fun q hq hs => by have hs : q = b29 := hs; have g0 := hlr q hq; have g1 := hGlt q hq; omega)
     replace jhK0 := Keep.fresh jhK0 hk221 (by intro i hi hs; first | exact hs | exact Or.inl hs | exact Or.inr hs | (exfalso; have hs2 : i = b29 := hs; omega))
     replace hfenb := Keep.fresh hfenb hk221 (by intro i hi hs; have hs2 : i = b29 := hs; show _ ∨ _; omega)
     replace ho194 := Rfr.keep ho194 hk221 (fun q hq hs => by have hs : q = b29 := hs; have g0 := own202 q hq; have g1 := lt201 q hq; omega)
     replace ho197 := VotT.keep ho197 hk221 (fun q hq hs => by have hs : q = b29 := hs; have g0 := own207 q hq; have g1 := lt206 q hq; omega)
     refine OI_end rfl ?_
     refine X_block ?_
     have hq9 := hstp.trans (step_end hc49 hc182)
     rw [endR_set (by omega)] at ho194
     exact fun a _ => ⟨hfenb, A215, cap215, F193, F196, jr, jb1, jb3, jb5, jb7, jbs36, jbn37, jA, jA2, jhl, jhK0, by rw [hq9]; exact hb29_223, by rw [hq9]; exact hA215, by rw [hq9]; exact ho194, by rw [hq9]; exact ho197, own215, (fun q hq => by have h1 := own202 q hq; have h2 := lt201 q hq; omega), rel203, (fun q hq => by have h1 := own207 q hq; have h2 := lt206 q hq; omega), rel208, hdis199, dis205, dis212, dis210, dis209, dis218, dis219⟩
    ·
     refine Gc 34 (.tmp 4) 0 (pt r) (some 68) qjb1 (fun hs => by rcases hs with hs | hs; omega; (have h1 := hFko _ hs; omega)) rfl ?_
     refine Gc 33 (.tmp 6) 0 (pt v) (some 69) qjb5 (fun hs => by rcases hs with hs | hs; omega; (have h1 := hFko _ hs; omega)) rfl ?_
     refine Gs [5, 6, 0, 7, 8, 9] [(7, pt b7), (10, pt b29), (68, pt r), (69, pt v), (70, nt ((k : Nat) : Int)), (71, nt (decE ts x (tallyT ((svcK ts (tot xs) now r1 ⟨s, r1, []⟩ k).s) ((k : Nat) : Int)) (tot xs) now))] ?_
     refine Gc 3 (.tmp 7) 0 (nt now) (some 72) qjb7 (fun hs => by rcases hs with hs | hs; omega; (have h1 := hFko _ hs; omega)) rfl ?_
     refine Gk { callee := (Callee.value (Operand.func 52)), args := #[(Operand.tmp 68), (Operand.tmp 69), (Operand.tmp 70), (Operand.tmp 71), (Operand.tmp 72)], argTypes := #[34, 33, 3, 3, 3] } 52 #[pt r, pt v, nt ((k : Nat) : Int), nt (decE ts x (tallyT ((svcK ts (tot xs) now r1 ⟨s, r1, []⟩ k).s) ((k : Nat) : Int)) (tot xs) now), nt now] (some 73) (ends_spec H172 r g ts ((svcK ts (tot xs) now r1 ⟨s, r1, []⟩ k).rs.set ((k : Nat) : Int).toNat (decY ts x (tallyT ((svcK ts (tot xs) now r1 ⟨s, r1, []⟩ k).s) ((k : Nat) : Int)) (tot xs) now)) Fk v ((svcK ts (tot xs) now r1 ⟨s, r1, []⟩ k).s) ((k : Nat) : Int) (decE ts x (tallyT ((svcK ts (tot xs) now r1 ⟨s, r1, []⟩ k).s) ((k : Nat) : Int)) (tot xs) now) now _ hR173 jV dis181 (getA_len (by rw [List.length_set]; omega))) ?_
     rintro _ w227 ⟨rfl, ⟨F229, F232, ho230, ho233, hfr231, hfr234, hdis235⟩, hk228⟩
     have K236 := Keep.fresh K188 hk228 (by intro i hi hs; first | exact hs | (rcases hs with hs | hs; (have u0 := hgo i hs; have u1 := hgl i hs; omega); (have u0 := hFko i hs; have u1 := lt40 i hs; omega)))
     refine ⟨_, rfl, K236, ?_⟩
     have hzK236 := Keep.size K236
     have hsz237 := Keep.size hk228
     replace jr := jr.keep hk228 (fun hs => by rcases hs with hs | hs; (have u0 := hgo _ hs; have u1 := hgl _ hs; omega); (have u0 := hFko _ hs; have u1 := lt40 _ hs; omega))
     replace jb1 := jb1.keep hk228 (fun hs => by rcases hs with hs | hs; (have u0 := hgo _ hs; have u1 := hgl _ hs; omega); (have u0 := hFko _ hs; have u1 := lt40 _ hs; omega))
     replace jb3 := jb3.keep hk228 (fun hs => by rcases hs with hs | hs; (have u0 := hgo _ hs; have u1 := hgl _ hs; omega); (have u0 := hFko _ hs; have u1 := lt40 _ hs; omega))
     replace jb5 := jb5.keep hk228 (fun hs => by rcases hs with hs | hs; (have u0 := hgo _ hs; have u1 := hgl _ hs; omega); (have u0 := hFko _ hs; have u1 := lt40 _ hs; omega))
     replace jb7 := jb7.keep hk228 (fun hs => by rcases hs with hs | hs; (have u0 := hgo _ hs; have u1 := hgl _ hs; omega); (have u0 := hFko _ hs; have u1 := lt40 _ hs; omega))
     replace jb29 := jb29.keep hk228 (fun hs => by rcases hs with hs | hs; (have u0 := hgo _ hs; have u1 := hgl _ hs; omega); (have u0 := hFko _ hs; have u1 := lt40 _ hs; omega))
     replace jbs36 := jbs36.keep hk228 (fun hs => by rcases hs with hs | hs; (have u0 := hgo _ hs; have u1 := hgl _ hs; omega); (have u0 := hFko _ hs; have u1 := lt40 _ hs; omega))
     replace jbn37 := jbn37.keep hk228 (fun hs => by rcases hs with hs | hs; (have u0 := hgo _ hs; have u1 := hgl _ hs; omega); (have u0 := hFko _ hs; have u1 := lt40 _ hs; omega))
     replace hb41_46 := hb41_46.keep hk228 (fun hs => by rcases hs with hs | hs; (have u0 := hgo _ hs; have u1 := hgl _ hs; omega); (have u0 := hFko _ hs; have u1 := lt40 _ hs; omega))
     replace hb13 := hb13.keep hk228 (fun hs => by rcases hs with hs | hs; (have u0 := hgo _ hs; have u1 := hgl _ hs; omega); (have u0 := hFko _ hs; have u1 := lt40 _ hs; omega))
     replace jA := SlT.keep jA hk228 (fun q hq hs => by rcases hs with hs | hs; exact (hAo q hq).2.2 hs; exact (fun q h1 h2 => dFA q h2 h1) q hq hs)
     replace jA2 := SlT.keep jA2 hk228 (fun q hq hs => by rcases hs with hs | hs; (have g0 := owA2 q hq; have g1 := ltjA2 q hq; have u9 : q = g := hs; omega); exact (fun q h1 h2 => dFA2 q h2 h1) q hq hs)
     replace jAk := SlT.keep jAk hk228 (fun q hq hs => by rcases hs with hs | hs; exact (fun q h1 h2 => dis179 q h2 h1) q hq (by rw [show q = g from hs]; exact (Rfr.atg hR173)); exact dAkF q hq hs)
     replace jhl := Led.keep jhl hk228 (fun q hq hs => by rcases hs with hs | hs; exact (fun q h1 h2 => dis180 q h2 h1) q hq (by rw [show q = g from hs]; exact (Rfr.atg hR173)); exact (fun q h1 h2 => dFG q h2 h1) q hq hs)
     replace jhK0 := Keep.fresh jhK0 hk228 (fun i hi hs => by rcases hs with hs | hs; (exact .inl hs); (rcases hFkr i hs with h | h; exact .inr <| h; (exfalso; omega)))
     replace hfenb := Keep.fresh hfenb hk228 (by intro i hi hs; rcases hs with hs | hs; (have u0 := hgo i hs; have u1 := hgl i hs; show _ ∨ _; omega); (have u0 := hFko i hs; have u1 := lt40 i hs; show _ ∨ _; omega))
     have own239 : ∀ q, F229 q → (q < w33.heap.size ∨ M1 ≤ q) ∧ q ≠ b1 ∧ q ≠ b3 ∧ q ≠ b5 ∧ q ≠ b7 ∧ q ≠ b29 ∧ q ≠ bs36 ∧ q ≠ bn37 ∧ q ≠ b41 ∧ q ≠ b13 := fun q hq => by rcases hfr231 q hq with h | h; (have h1 := own177 q h; have h2 := lt176 q h; omega); omega
     have lt238 := Rfr.lt ho230
     have rel240 : ∀ q, F229 q → H q ∨ w.heap.size ≤ q := fun q hq => by rcases hfr231 q hq with h | h; exact rel178 q h; exact .inr (by omega)
     have dis241 : ∀ q, F229 q → ¬ inA Ak q := fun q h1 h2 => by rcases hfr231 q h1 with h | h; exact dis179 q h h2; (have h4 := ltjAk q h2; omega)
     have dis242 : ∀ q, F229 q → ¬ G q := fun q h1 h2 => by rcases hfr231 q h1 with h | h; exact dis180 q h h2; (have h4 := hGlt q h2; omega)
     have own244 : ∀ q, F232 q → (q < w33.heap.size ∨ M1 ≤ q) ∧ q ≠ r ∧ q ≠ b1 ∧ q ≠ b3 ∧ q ≠ b5 ∧ q ≠ b7 ∧ q ≠ b29 ∧ q ≠ bs36 ∧ q ≠ bn37 ∧ q ≠ b41 ∧ q ≠ b13 := fun q hq => by rcases hfr234 q hq with h | h; (have h1 := hFko q h; have h2 := lt40 q h; omega); omega
     have lt243 := VotT.lt ho233
     have rel245 : ∀ q, F232 q → F q ∨ w.heap.size ≤ q := fun q hq => by rcases hfr234 q hq with h | h; exact hFkr q h; exact .inr (by omega)
     have dis246 : ∀ q, F232 q → ¬ inA A q := fun q h1 h2 => by rcases hfr234 q h1 with h | h; exact dFA q h h2; (have h4 := ltjA q h2; omega)
     have dis247 : ∀ q, F232 q → ¬ inA A2 q := fun q h1 h2 => by rcases hfr234 q h1 with h | h; exact dFA2 q h h2; (have h4 := ltjA2 q h2; omega)
     have dis248 : ∀ q, F232 q → ¬ inA Ak q := fun q h1 h2 => by rcases hfr234 q h1 with h | h; exact (fun q h1 h2 => dAkF q h2 h1) q h h2; (have h4 := ltjAk q h2; omega)
     have dis249 : ∀ q, F232 q → ¬ G q := fun q h1 h2 => by rcases hfr234 q h1 with h | h; exact dFG q h h2; (have h4 := hGlt q h2; omega)
     refine GI_cellA 50 (.tmp 10) 0 (.slice Ak ((svcK ts (tot xs) now r1 ⟨s, r1, []⟩ k).out.length) capk) (some 67) (by kernel_rfl) (by kernel_rfl) K236 (by kernel_rfl) jb29 (m := 1) (by kernel_rfl) rfl ?_
     refine GI_final 7 (by kernel_rfl) (by kernel_rfl) ?_
     refine OI_slit (E := 53) (zv := .agg #[nt 0, nt 0, nt 0]) (sz := 3) (by_ := 24) 50 1 #[(0, (Operand.tmp 73))] [.agg (Evt.cells (Evt.mk 1 ((k : Nat) : Int) (decE ts x (tallyT ((svcK ts (tot xs) now r1 ⟨s, r1, []⟩ k).s) ((k : Nat) : Int)) (tot xs) now))).toArray] (Evt.cells (Evt.mk 1 ((k : Nat) : Int) (decE ts x (tallyT ((svcK ts (tot xs) now r1 ⟨s, r1, []⟩ k).s) ((k : Nat) : Int)) (tot xs) now))) (some 74) (by kernel_rfl) (by kernel_rfl) (by kernel_rfl) (by omega) rfl (by omega) (by intro v hv; obtain rfl := List.mem_singleton.1 hv; show (Evt.cells (Evt.mk 1 ((k : Nat) : Int) (decE ts x (tallyT ((svcK ts (tot xs) now r1 ⟨s, r1, []⟩ k).s) ((k : Nat) : Int)) (tot xs) now))).toArray.size = 3; simp [Evt.len]) (by kernel_rfl) (by show (Evt.cells (Evt.mk 1 ((k : Nat) : Int) (decE ts x (tallyT ((svcK ts (tot xs) now r1 ⟨s, r1, []⟩ k).s) ((k : Nat) : Int)) (tot xs) now))).toArray.toList ++ [] = _; simp) ?_
     intro b250 w250 e250 hb250 k250 z250
     have hsz251 := Keep.size k250
     replace jr := jr.keep k250 (fun f => f)
     replace jb1 := jb1.keep k250 (fun f => f)
     replace jb3 := jb3.keep k250 (fun f => f)
     replace jb5 := jb5.keep k250 (fun f => f)
     replace jb7 := jb7.keep k250 (fun f => f)
     replace jb29 := jb29.keep k250 (fun f => f)
     replace jbs36 := jbs36.keep k250 (fun f => f)
     replace jbn37 := jbn37.keep k250 (fun f => f)
     replace hb41_46 := hb41_46.keep k250 (fun f => f)
     replace hb13 := hb13.keep k250 (fun f => f)
     replace jA := SlT.keep0 jA k250
     replace jA2 := SlT.keep0 jA2 k250
     replace jAk := SlT.keep0 jAk k250
     replace jhl := Led.keep jhl k250 (fun _ _ f => f)
     replace jhK0 := Keep.tr jhK0 (Keep.ofNone k250)
     replace hfenb := Keep.tr hfenb (Keep.ofNone k250)
     replace ho230 := Rfr.keep ho230 k250 (fun _ _ f => f)
     replace ho233 := VotT.keep ho233 k250 (fun _ _ f => f)
     have hb250lt := hb250.lt
     refine OI_append (t := 50) (at2 := 50) (E := 53) (E2 := 53) (sz := 3) (by_ := 24) (zv := .agg #[nt 0, nt 0, nt 0]) (m := ((svcK ts (tot xs) now r1 ⟨s, r1, []⟩ k).out).length) (k := 1) (.tmp 67) (.tmp 74) (.slice Ak ((svcK ts (tot xs) now r1 ⟨s, r1, []⟩ k).out.length) capk) (.slice (some ⟨b250, 0, none⟩) 1 1) (some 75) (by kernel_rfl) (by kernel_rfl) (by kernel_rfl) (by kernel_rfl) (by kernel_rfl) (by kernel_rfl) (by kernel_rfl) (SlT.slr jAk) (slr_one hb250 (Evt.len ((Evt.mk 1 ((k : Nat) : Int) (decE ts x (tallyT ((svcK ts (tot xs) now r1 ⟨s, r1, []⟩ k).s) ((k : Nat) : Int)) (tot xs) now))))) (Evt.one ((Evt.mk 1 ((k : Nat) : Int) (decE ts x (tallyT ((svcK ts (tot xs) now r1 ⟨s, r1, []⟩ k).s) ((k : Nat) : Int)) (tot xs) now)))) (by first | omega | (simp only [List.length_nil]; omega)) (by omega) (by first | omega | (simp only [List.length_nil]; omega)) (by omega) ?_
     intro vv9 w252 hap
     obtain ⟨A252, cap252, rfl, hA252, hk252, own252x⟩ := app_one (f := Evt.cells) (xs := ((svcK ts (tot xs) now r1 ⟨s, r1, []⟩ k).out)) (x := ((Evt.mk 1 ((k : Nat) : Int) (decE ts x (tallyT ((svcK ts (tot xs) now r1 ⟨s, r1, []⟩ k).s) ((k : Nat) : Int)) (tot xs) now)))) (A := Ak) (cap := capk) hap (fun x _ => Evt.len x) (Evt.len _)
     have own252 : ∀ q, inA A252 q → M1 ≤ q := fun q hq => by rcases own252x q hq with h | h; exact ownk q h; (show M1 ≤ q; omega)
     have hsz253 := Keep.size hk252
     replace jr := jr.keep hk252 (fun hs => by have h1 := ownk _ hs; have h2 := ltjAk _ hs; omega)
     replace jb1 := jb1.keep hk252 (fun hs => by have h1 := ownk _ hs; have h2 := ltjAk _ hs; omega)
     replace jb3 := jb3.keep hk252 (fun hs => by have h1 := ownk _ hs; have h2 := ltjAk _ hs; omega)
     replace jb5 := jb5.keep hk252 (fun hs => by have h1 := ownk _ hs; have h2 := ltjAk _ hs; omega)
     replace jb7 := jb7.keep hk252 (fun hs => by have h1 := ownk _ hs; have h2 := ltjAk _ hs; omega)
     replace jb29 := jb29.keep hk252 (fun hs => by have h1 := ownk _ hs; have h2 := ltjAk _ hs; omega)
     replace jbs36 := jbs36.keep hk252 (fun hs => by have h1 := ownk _ hs; have h2 := ltjAk _ hs; omega)
     replace jbn37 := jbn37.keep hk252 (fun hs => by have h1 := ownk _ hs; have h2 := ltjAk _ hs; omega)
     replace hb41_46 := hb41_46.keep hk252 (fun hs => by have h1 := ownk _ hs; have h2 := ltjAk _ hs; omega)
     replace hb13 := hb13.keep hk252 (fun hs => by have h1 := ownk _ hs; have h2 := ltjAk _ hs; omega)
     replace jA := SlT.keep jA hk252 (fun q hq hs => by have g0 := hAr q hq; have g1 := ltjA q hq; have h1 := ownk q hs; have h2 := ltjAk q hs; omega)
     replace jA2 := SlT.keep jA2 hk252 (fun q hq hs => by have g0 := owA2 q hq; have g1 := ltjA2 q hq; have h1 := ownk q hs; have h2 := ltjAk q hs; omega)
     replace jhl := Led.keep jhl hk252 (fun q hq hs => (fun (q : Nat) (h1 : inA Ak q) (h2 : G q) => by have h3 := ownk q h1; have h4 := hGlt q h2; omega) q hs hq)
     replace jhK0 := Keep.fresh jhK0 hk252 (by intro i hi hs; first | exact hs | (exfalso; have h1 := ownk i hs; have h2 := ltjAk i hs; omega) | (have h1 := ownk i hs; have h2 := ltjAk i hs; show _ ∨ _; omega))
     replace hfenb := Keep.fresh hfenb hk252 (by intro i hi hs; have h1 := ownk i hs; have h2 := ltjAk i hs; show _ ∨ _; omega)
     replace ho230 := Rfr.keep ho230 hk252 (fun q hq hs => (fun q h1 h2 => dis241 q h2 h1) q hs hq)
     replace ho233 := VotT.keep ho233 hk252 (fun q hq hs => (fun q h1 h2 => dis248 q h2 h1) q hs hq)
     have lt252 := SlT.lt hA252
     have dis254 : ∀ q, inA A252 q → ¬ G q := fun q h1 h2 => by rcases own252x q h1 with h | h; exact (fun (q : Nat) (h1 : G q) (h2 : inA Ak q) => by have h3 := ownk q h2; have h4 := hGlt q h1; omega) q h2 h; (have h4 := hGlt q h2; omega)
     have dis255 : ∀ q, inA A252 q → ¬ F229 q := fun q h1 h2 => by rcases own252x q h1 with h | h; exact dis241 q h2 h; (have h4 := lt238 q h2; omega)
     have dis256 : ∀ q, inA A252 q → ¬ F232 q := fun q h1 h2 => by rcases own252x q h1 with h | h; exact dis248 q h2 h; (have h4 := lt243 q h2; omega)
     refine OI_set (m := 1) (kd := false) 50 (.tmp 10) (.tmp 75) 0 (.slice A252 (((svcK ts (tot xs) now r1 ⟨s, r1, []⟩ k).out ++ [((Evt.mk 1 ((k : Nat) : Int) (decE ts x (tallyT ((svcK ts (tot xs) now r1 ⟨s, r1, []⟩ k).s) ((k : Nat) : Int)) (tot xs) now)))]).length) cap252) [.slice A252 (((svcK ts (tot xs) now r1 ⟨s, r1, []⟩ k).out ++ [((Evt.mk 1 ((k : Nat) : Int) (decE ts x (tallyT ((svcK ts (tot xs) now r1 ⟨s, r1, []⟩ k).s) ((k : Nat) : Int)) (tot xs) now)))]).length) cap252] none (by kernel_rfl) (by kernel_rfl) (by kernel_rfl) jb29 (by kernel_rfl) (by kernel_rfl) (by kernel_rfl) (Nat.le_of_ble_eq_true (by kernel_rfl)) (by simp [Value.oneCell']) ?_
     intro w257 hb29_260 hk258 hz259
     replace hb29_260 : Blk w257 b29 [.slice A252 (((svcK ts (tot xs) now r1 ⟨s, r1, []⟩ k).out ++ [((Evt.mk 1 ((k : Nat) : Int) (decE ts x (tallyT ((svcK ts (tot xs) now r1 ⟨s, r1, []⟩ k).s) ((k : Nat) : Int)) (tot xs) now)))]).length) cap252] 50 := hb29_260
     have hsz261 := Keep.size hk258
     replace jr := jr.keep hk258 (by show ¬ (_ = _); omega)
     replace jb1 := jb1.keep hk258 (by show ¬ (_ = _); omega)
     replace jb3 := jb3.keep hk258 (by show ¬ (_ = _); omega)
     replace jb5 := jb5.keep hk258 (by show ¬ (_ = _); omega)
     replace jb7 := jb7.keep hk258 (by show ¬ (_ = _); omega)
     replace jbs36 := jbs36.keep hk258 (by show ¬ (_ = _); omega)
     replace jbn37 := jbn37.keep hk258 (by show ¬ (_ = _); omega)
     replace hb41_46 := hb41_46.keep hk258 (by show ¬ (_ = _); omega)
     replace hb13 := hb13.keep hk258 (by show ¬ (_ = _); omega)
     replace jA := SlT.keep jA hk258 (fun q hq hs => by have hs : q = b29 := hs; have g0 := hAr q hq; have g1 := ltjA q hq; omega)
     replace jA2 := SlT.keep jA2 hk258 (fun q hq hs => by have hs : q = b29 := hs; have g0 := owA2 q hq; have g1 := ltjA2 q hq; omega)
     replace hA252 := SlT.keep hA252 hk258 (fun q hq hs => by have hs : q = b29 := hs; have g0 := own252 q hq; have g1 := lt252 q hq; omega)
     replace jhl := Led.keep jhl hk258 (fun q hq hs => by have hs : q = b29 := hs; have g0 := hlr q hq; have g1 := hGlt q hq; omega)
     replace jhK0 := Keep.fresh jhK0 hk258 (by intro i hi hs; first | exact hs | exact Or.inl hs | exact Or.inr hs | (exfalso; have hs2 : i = b29 := hs; omega))
     replace hfenb := Keep.fresh hfenb hk258 (by intro i hi hs; have hs2 : i = b29 := hs; show _ ∨ _; omega)
     replace ho230 := Rfr.keep ho230 hk258 (fun q hq hs => by have hs : q = b29 := hs; have g0 := own239 q hq; have g1 := lt238 q hq; omega)
     replace ho233 := VotT.keep ho233 hk258 (fun q hq hs => by have hs : q = b29 := hs; have g0 := own244 q hq; have g1 := lt243 q hq; omega)
     refine OI_end rfl ?_
     refine X_block ?_
     have hq9 := hstp.trans (step_end hc49 hc182)
     rw [endR_set (by omega)] at ho230
     exact fun a _ => ⟨hfenb, A252, cap252, F229, F232, jr, jb1, jb3, jb5, jb7, jbs36, jbn37, jA, jA2, jhl, jhK0, by rw [hq9]; exact hb29_260, by rw [hq9]; exact hA252, by rw [hq9]; exact ho230, by rw [hq9]; exact ho233, own252, (fun q hq => by have h1 := own239 q hq; have h2 := lt238 q hq; omega), rel240, (fun q hq => by have h1 := own244 q hq; have h2 := lt243 q hq; omega), rel245, hdis235, dis242, dis249, dis247, dis246, dis255, dis256⟩
    ·
     refine Gc 34 (.tmp 4) 0 (pt r) (some 68) qjb1 (fun hs => by rcases hs with hs | hs; omega; (have h1 := hFko _ hs; omega)) rfl ?_
     refine Gc 33 (.tmp 6) 0 (pt v) (some 69) qjb5 (fun hs => by rcases hs with hs | hs; omega; (have h1 := hFko _ hs; omega)) rfl ?_
     refine Gs [5, 6, 7, 0, 8, 9] [(7, pt b7), (10, pt b29), (68, pt r), (69, pt v), (70, nt ((k : Nat) : Int)), (71, nt (decE ts x (tallyT ((svcK ts (tot xs) now r1 ⟨s, r1, []⟩ k).s) ((k : Nat) : Int)) (tot xs) now))] ?_
     refine Gc 3 (.tmp 7) 0 (nt now) (some 72) qjb7 (fun hs => by rcases hs with hs | hs; omega; (have h1 := hFko _ hs; omega)) rfl ?_
     refine Gk { callee := (Callee.value (Operand.func 52)), args := #[(Operand.tmp 68), (Operand.tmp 69), (Operand.tmp 70), (Operand.tmp 71), (Operand.tmp 72)], argTypes := #[34, 33, 3, 3, 3] } 52 #[pt r, pt v, nt ((k : Nat) : Int), nt (decE ts x (tallyT ((svcK ts (tot xs) now r1 ⟨s, r1, []⟩ k).s) ((k : Nat) : Int)) (tot xs) now), nt now] (some 73) (ends_spec H172 r g ts ((svcK ts (tot xs) now r1 ⟨s, r1, []⟩ k).rs.set ((k : Nat) : Int).toNat (decY ts x (tallyT ((svcK ts (tot xs) now r1 ⟨s, r1, []⟩ k).s) ((k : Nat) : Int)) (tot xs) now)) Fk v ((svcK ts (tot xs) now r1 ⟨s, r1, []⟩ k).s) ((k : Nat) : Int) (decE ts x (tallyT ((svcK ts (tot xs) now r1 ⟨s, r1, []⟩ k).s) ((k : Nat) : Int)) (tot xs) now) now _ hR173 jV dis181 (getA_len (by rw [List.length_set]; omega))) ?_
     rintro _ w264 ⟨rfl, ⟨F266, F269, ho267, ho270, hfr268, hfr271, hdis272⟩, hk265⟩
     have K273 := Keep.fresh K188 hk265 (by intro i hi hs; first | exact hs | (rcases hs with hs | hs; (have u0 := hgo i hs; have u1 := hgl i hs; omega); (have u0 := hFko i hs; have u1 := lt40 i hs; omega)))
     refine ⟨_, rfl, K273, ?_⟩
     have hzK273 := Keep.size K273
     have hsz274 := Keep.size hk265
     replace jr := jr.keep hk265 (fun hs => by rcases hs with hs | hs; (have u0 := hgo _ hs; have u1 := hgl _ hs; omega); (have u0 := hFko _ hs; have u1 := lt40 _ hs; omega))
     replace jb1 := jb1.keep hk265 (fun hs => by rcases hs with hs | hs; (have u0 := hgo _ hs; have u1 := hgl _ hs; omega); (have u0 := hFko _ hs; have u1 := lt40 _ hs; omega))
     replace jb3 := jb3.keep hk265 (fun hs => by rcases hs with hs | hs; (have u0 := hgo _ hs; have u1 := hgl _ hs; omega); (have u0 := hFko _ hs; have u1 := lt40 _ hs; omega))
     replace jb5 := jb5.keep hk265 (fun hs => by rcases hs with hs | hs; (have u0 := hgo _ hs; have u1 := hgl _ hs; omega); (have u0 := hFko _ hs; have u1 := lt40 _ hs; omega))
     replace jb7 := jb7.keep hk265 (fun hs => by rcases hs with hs | hs; (have u0 := hgo _ hs; have u1 := hgl _ hs; omega); (have u0 := hFko _ hs; have u1 := lt40 _ hs; omega))
     replace jb29 := jb29.keep hk265 (fun hs => by rcases hs with hs | hs; (have u0 := hgo _ hs; have u1 := hgl _ hs; omega); (have u0 := hFko _ hs; have u1 := lt40 _ hs; omega))
     replace jbs36 := jbs36.keep hk265 (fun hs => by rcases hs with hs | hs; (have u0 := hgo _ hs; have u1 := hgl _ hs; omega); (have u0 := hFko _ hs; have u1 := lt40 _ hs; omega))
     replace jbn37 := jbn37.keep hk265 (fun hs => by rcases hs with hs | hs; (have u0 := hgo _ hs; have u1 := hgl _ hs; omega); (have u0 := hFko _ hs; have u1 := lt40 _ hs; omega))
     replace hb41_46 := hb41_46.keep hk265 (fun hs => by rcases hs with hs | hs; (have u0 := hgo _ hs; have u1 := hgl _ hs; omega); (have u0 := hFko _ hs; have u1 := lt40 _ hs; omega))
     replace hb13 := hb13.keep hk265 (fun hs => by rcases hs with hs | hs; (have u0 := hgo _ hs; have u1 := hgl _ hs; omega); (have u0 := hFko _ hs; have u1 := lt40 _ hs; omega))
     replace jA := SlT.keep jA hk265 (fun q hq hs => by rcases hs with hs | hs; exact (hAo q hq).2.2 hs; exact (fun q h1 h2 => dFA q h2 h1) q hq hs)
     replace jA2 := SlT.keep jA2 hk265 (fun q hq hs => by rcases hs with hs | hs; (have g0 := owA2 q hq; have g1 := ltjA2 q hq; have u9 : q = g := hs; omega); exact (fun q h1 h2 => dFA2 q h2 h1) q hq hs)
     replace jAk := SlT.keep jAk hk265 (fun q hq hs => by rcases hs with hs | hs; exact (fun q h1 h2 => dis179 q h2 h1) q hq (by rw [show q = g from hs]; exact (Rfr.atg hR173)); exact dAkF q hq hs)
     replace jhl := Led.keep jhl hk265 (fun q hq hs => by rcases hs with hs | hs; exact (fun q h1 h2 => dis180 q h2 h1) q hq (by rw [show q = g from hs]; exact (Rfr.atg hR173)); exact (fun q h1 h2 => dFG q h2 h1) q hq hs)
     replace jhK0 := Keep.fresh jhK0 hk265 (fun i hi hs => by rcases hs with hs | hs; (exact .inl hs); (rcases hFkr i hs with h | h; exact .inr <| h; (exfalso; omega)))
     replace hfenb := Keep.fresh hfenb hk265 (by intro i hi hs; rcases hs with hs | hs; (have u0 := hgo i hs; have u1 := hgl i hs; show _ ∨ _; omega); (have u0 := hFko i hs; have u1 := lt40 i hs; show _ ∨ _; omega))
     have own276 : ∀ q, F266 q → (q < w33.heap.size ∨ M1 ≤ q) ∧ q ≠ b1 ∧ q ≠ b3 ∧ q ≠ b5 ∧ q ≠ b7 ∧ q ≠ b29 ∧ q ≠ bs36 ∧ q ≠ bn37 ∧ q ≠ b41 ∧ q ≠ b13 := fun q hq => by rcases hfr268 q hq with h | h; (have h1 := own177 q h; have h2 := lt176 q h; omega); omega
     have lt275 := Rfr.lt ho267
     have rel277 : ∀ q, F266 q → H q ∨ w.heap.size ≤ q := fun q hq => by rcases hfr268 q hq with h | h; exact rel178 q h; exact .inr (by omega)
     have dis278 : ∀ q, F266 q → ¬ inA Ak q := fun q h1 h2 => by rcases hfr268 q h1 with h | h; exact dis179 q h h2; (have h4 := ltjAk q h2; omega)
     have dis279 : ∀ q, F266 q → ¬ G q := fun q h1 h2 => by rcases hfr268 q h1 with h | h; exact dis180 q h h2; (have h4 := hGlt q h2; omega)
     have own281 : ∀ q, F269 q → (q < w33.heap.size ∨ M1 ≤ q) ∧ q ≠ r ∧ q ≠ b1 ∧ q ≠ b3 ∧ q ≠ b5 ∧ q ≠ b7 ∧ q ≠ b29 ∧ q ≠ bs36 ∧ q ≠ bn37 ∧ q ≠ b41 ∧ q ≠ b13 := fun q hq => by rcases hfr271 q hq with h | h; (have h1 := hFko q h; have h2 := lt40 q h; omega); omega
     have lt280 := VotT.lt ho270
     have rel282 : ∀ q, F269 q → F q ∨ w.heap.size ≤ q := fun q hq => by rcases hfr271 q hq with h | h; exact hFkr q h; exact .inr (by omega)
     have dis283 : ∀ q, F269 q → ¬ inA A q := fun q h1 h2 => by rcases hfr271 q h1 with h | h; exact dFA q h h2; (have h4 := ltjA q h2; omega)
     have dis284 : ∀ q, F269 q → ¬ inA A2 q := fun q h1 h2 => by rcases hfr271 q h1 with h | h; exact dFA2 q h h2; (have h4 := ltjA2 q h2; omega)
     have dis285 : ∀ q, F269 q → ¬ inA Ak q := fun q h1 h2 => by rcases hfr271 q h1 with h | h; exact (fun q h1 h2 => dAkF q h2 h1) q h h2; (have h4 := ltjAk q h2; omega)
     have dis286 : ∀ q, F269 q → ¬ G q := fun q h1 h2 => by rcases hfr271 q h1 with h | h; exact dFG q h h2; (have h4 := hGlt q h2; omega)
     refine GI_slit (E := 53) (zv := .agg #[nt 0, nt 0, nt 0]) (sz := 3) (by_ := 24) 50 1 #[(0, (Operand.tmp 73))] [.agg (Evt.cells (Evt.mk 1 ((k : Nat) : Int) (decE ts x (tallyT ((svcK ts (tot xs) now r1 ⟨s, r1, []⟩ k).s) ((k : Nat) : Int)) (tot xs) now))).toArray] (Evt.cells (Evt.mk 1 ((k : Nat) : Int) (decE ts x (tallyT ((svcK ts (tot xs) now r1 ⟨s, r1, []⟩ k).s) ((k : Nat) : Int)) (tot xs) now))) (some 74) (by kernel_rfl) (by kernel_rfl) K273 (by kernel_rfl) (by kernel_rfl) (by omega) rfl (by omega) (by intro v hv; obtain rfl := List.mem_singleton.1 hv; show (Evt.cells (Evt.mk 1 ((k : Nat) : Int) (decE ts x (tallyT ((svcK ts (tot xs) now r1 ⟨s, r1, []⟩ k).s) ((k : Nat) : Int)) (tot xs) now))).toArray.size = 3; simp [Evt.len]) (by kernel_rfl) (by show (Evt.cells (Evt.mk 1 ((k : Nat) : Int) (decE ts x (tallyT ((svcK ts (tot xs) now r1 ⟨s, r1, []⟩ k).s) ((k : Nat) : Int)) (tot xs) now))).toArray.toList ++ [] = _; simp) ?_
     intro b287 w287 e287 hb287 k287 z287 K288
     have hsz289 := Keep.size k287
     replace jr := jr.keep k287 (fun f => f)
     replace jb1 := jb1.keep k287 (fun f => f)
     replace jb3 := jb3.keep k287 (fun f => f)
     replace jb5 := jb5.keep k287 (fun f => f)
     replace jb7 := jb7.keep k287 (fun f => f)
     replace jb29 := jb29.keep k287 (fun f => f)
     replace jbs36 := jbs36.keep k287 (fun f => f)
     replace jbn37 := jbn37.keep k287 (fun f => f)
     replace hb41_46 := hb41_46.keep k287 (fun f => f)
     replace hb13 := hb13.keep k287 (fun f => f)
     replace jA := SlT.keep0 jA k287
     replace jA2 := SlT.keep0 jA2 k287
     replace jAk := SlT.keep0 jAk k287
     replace jhl := Led.keep jhl k287 (fun _ _ f => f)
     replace jhK0 := Keep.tr jhK0 (Keep.ofNone k287)
     replace hfenb := Keep.tr hfenb (Keep.ofNone k287)
     replace ho267 := Rfr.keep ho267 k287 (fun _ _ f => f)
     replace ho270 := VotT.keep ho270 k287 (fun _ _ f => f)
     have hb287lt := hb287.lt
     refine GI_cellA 50 (.tmp 10) 0 (.slice Ak ((svcK ts (tot xs) now r1 ⟨s, r1, []⟩ k).out.length) capk) (some 67) (by kernel_rfl) (by kernel_rfl) K288 (by kernel_rfl) jb29 (m := 1) (by kernel_rfl) rfl ?_
     refine GI_final 8 (by kernel_rfl) (by kernel_rfl) ?_
     refine OI_append (t := 50) (at2 := 50) (E := 53) (E2 := 53) (sz := 3) (by_ := 24) (zv := .agg #[nt 0, nt 0, nt 0]) (m := ((svcK ts (tot xs) now r1 ⟨s, r1, []⟩ k).out).length) (k := 1) (.tmp 67) (.tmp 74) (.slice Ak ((svcK ts (tot xs) now r1 ⟨s, r1, []⟩ k).out.length) capk) (.slice (some ⟨b287, 0, none⟩) 1 1) (some 75) (by kernel_rfl) (by kernel_rfl) (by kernel_rfl) (by kernel_rfl) (by kernel_rfl) (by kernel_rfl) (by kernel_rfl) (SlT.slr jAk) (slr_one hb287 (Evt.len ((Evt.mk 1 ((k : Nat) : Int) (decE ts x (tallyT ((svcK ts (tot xs) now r1 ⟨s, r1, []⟩ k).s) ((k : Nat) : Int)) (tot xs) now))))) (Evt.one ((Evt.mk 1 ((k : Nat) : Int) (decE ts x (tallyT ((svcK ts (tot xs) now r1 ⟨s, r1, []⟩ k).s) ((k : Nat) : Int)) (tot xs) now)))) (by first | omega | (simp only [List.length_nil]; omega)) (by omega) (by first | omega | (simp only [List.length_nil]; omega)) (by omega) ?_
     intro vv9 w290 hap
     obtain ⟨A290, cap290, rfl, hA290, hk290, own290x⟩ := app_one (f := Evt.cells) (xs := ((svcK ts (tot xs) now r1 ⟨s, r1, []⟩ k).out)) (x := ((Evt.mk 1 ((k : Nat) : Int) (decE ts x (tallyT ((svcK ts (tot xs) now r1 ⟨s, r1, []⟩ k).s) ((k : Nat) : Int)) (tot xs) now)))) (A := Ak) (cap := capk) hap (fun x _ => Evt.len x) (Evt.len _)
     have own290 : ∀ q, inA A290 q → M1 ≤ q := fun q hq => by rcases own290x q hq with h | h; exact ownk q h; (show M1 ≤ q; omega)
     have hsz291 := Keep.size hk290
     replace jr := jr.keep hk290 (fun hs => by have h1 := ownk _ hs; have h2 := ltjAk _ hs; omega)
     replace jb1 := jb1.keep hk290 (fun hs => by have h1 := ownk _ hs; have h2 := ltjAk _ hs; omega)
     replace jb3 := jb3.keep hk290 (fun hs => by have h1 := ownk _ hs; have h2 := ltjAk _ hs; omega)
     replace jb5 := jb5.keep hk290 (fun hs => by have h1 := ownk _ hs; have h2 := ltjAk _ hs; omega)
     replace jb7 := jb7.keep hk290 (fun hs => by have h1 := ownk _ hs; have h2 := ltjAk _ hs; omega)
     replace jb29 := jb29.keep hk290 (fun hs => by have h1 := ownk _ hs; have h2 := ltjAk _ hs; omega)
     replace jbs36 := jbs36.keep hk290 (fun hs => by have h1 := ownk _ hs; have h2 := ltjAk _ hs; omega)
     replace jbn37 := jbn37.keep hk290 (fun hs => by have h1 := ownk _ hs; have h2 := ltjAk _ hs; omega)
     replace hb41_46 := hb41_46.keep hk290 (fun hs => by have h1 := ownk _ hs; have h2 := ltjAk _ hs; omega)
     replace hb13 := hb13.keep hk290 (fun hs => by have h1 := ownk _ hs; have h2 := ltjAk _ hs; omega)
     replace jA := SlT.keep jA hk290 (fun q hq hs => by have g0 := hAr q hq; have g1 := ltjA q hq; have h1 := ownk q hs; have h2 := ltjAk q hs; omega)
     replace jA2 := SlT.keep jA2 hk290 (fun q hq hs => by have g0 := owA2 q hq; have g1 := ltjA2 q hq; have h1 := ownk q hs; have h2 := ltjAk q hs; omega)
     replace jhl := Led.keep jhl hk290 (fun q hq hs => (fun (q : Nat) (h1 : inA Ak q) (h2 : G q) => by have h3 := ownk q h1; have h4 := hGlt q h2; omega) q hs hq)
     replace jhK0 := Keep.fresh jhK0 hk290 (by intro i hi hs; first | exact hs | (exfalso; have h1 := ownk i hs; have h2 := ltjAk i hs; omega) | (have h1 := ownk i hs; have h2 := ltjAk i hs; show _ ∨ _; omega))
     replace hfenb := Keep.fresh hfenb hk290 (by intro i hi hs; have h1 := ownk i hs; have h2 := ltjAk i hs; show _ ∨ _; omega)
     replace ho267 := Rfr.keep ho267 hk290 (fun q hq hs => (fun q h1 h2 => dis278 q h2 h1) q hs hq)
     replace ho270 := VotT.keep ho270 hk290 (fun q hq hs => (fun q h1 h2 => dis285 q h2 h1) q hs hq)
     have lt290 := SlT.lt hA290
     have dis292 : ∀ q, inA A290 q → ¬ G q := fun q h1 h2 => by rcases own290x q h1 with h | h; exact (fun (q : Nat) (h1 : G q) (h2 : inA Ak q) => by have h3 := ownk q h2; have h4 := hGlt q h1; omega) q h2 h; (have h4 := hGlt q h2; omega)
     have dis293 : ∀ q, inA A290 q → ¬ F266 q := fun q h1 h2 => by rcases own290x q h1 with h | h; exact dis278 q h2 h; (have h4 := lt275 q h2; omega)
     have dis294 : ∀ q, inA A290 q → ¬ F269 q := fun q h1 h2 => by rcases own290x q h1 with h | h; exact dis285 q h2 h; (have h4 := lt280 q h2; omega)
     refine OI_set (m := 1) (kd := false) 50 (.tmp 10) (.tmp 75) 0 (.slice A290 (((svcK ts (tot xs) now r1 ⟨s, r1, []⟩ k).out ++ [((Evt.mk 1 ((k : Nat) : Int) (decE ts x (tallyT ((svcK ts (tot xs) now r1 ⟨s, r1, []⟩ k).s) ((k : Nat) : Int)) (tot xs) now)))]).length) cap290) [.slice A290 (((svcK ts (tot xs) now r1 ⟨s, r1, []⟩ k).out ++ [((Evt.mk 1 ((k : Nat) : Int) (decE ts x (tallyT ((svcK ts (tot xs) now r1 ⟨s, r1, []⟩ k).s) ((k : Nat) : Int)) (tot xs) now)))]).length) cap290] none (by kernel_rfl) (by kernel_rfl) (by kernel_rfl) jb29 (by kernel_rfl) (by kernel_rfl) (by kernel_rfl) (Nat.le_of_ble_eq_true (by kernel_rfl)) (by simp [Value.oneCell']) ?_
     intro w295 hb29_298 hk296 hz297
     replace hb29_298 : Blk w295 b29 [.slice A290 (((svcK ts (tot xs) now r1 ⟨s, r1, []⟩ k).out ++ [((Evt.mk 1 ((k : Nat) : Int) (decE ts x (tallyT ((svcK ts (tot xs) now r1 ⟨s, r1, []⟩ k).s) ((k : Nat) : Int)) (tot xs) now)))]).length) cap290] 50 := hb29_298
     have hsz299 := Keep.size hk296
     replace jr := jr.keep hk296 (by show ¬ (_ = _); omega)
     replace jb1 := jb1.keep hk296 (by show ¬ (_ = _); omega)
     replace jb3 := jb3.keep hk296 (by show ¬ (_ = _); omega)
     replace jb5 := jb5.keep hk296 (by show ¬ (_ = _); omega)
     replace jb7 := jb7.keep hk296 (by show ¬ (_ = _); omega)
     replace jbs36 := jbs36.keep hk296 (by show ¬ (_ = _); omega)
     replace jbn37 := jbn37.keep hk296 (by show ¬ (_ = _); omega)
     replace hb41_46 := hb41_46.keep hk296 (by show ¬ (_ = _); omega)
     replace hb13 := hb13.keep hk296 (by show ¬ (_ = _); omega)
     replace jA := SlT.keep jA hk296 (fun q hq hs => by have hs : q = b29 := hs; have g0 := hAr q hq; have g1 := ltjA q hq; omega)
     replace jA2 := SlT.keep jA2 hk296 (fun q hq hs => by have hs : q = b29 := hs; have g0 := owA2 q hq; have g1 := ltjA2 q hq; omega)
     replace hA290 := SlT.keep hA290 hk296 (fun q hq hs => by have hs : q = b29 := hs; have g0 := own290 q hq; have g1 := lt290 q hq; omega)
     replace jhl := Led.keep jhl hk296 (fun q hq hs => by have hs : q = b29 := hs; have g0 := hlr q hq; have g1 := hGlt q hq; omega)
     replace jhK0 := Keep.fresh jhK0 hk296 (by intro i hi hs; first | exact hs | exact Or.inl hs | exact Or.inr hs | (exfalso; have hs2 : i = b29 := hs; omega))
     replace hfenb := Keep.fresh hfenb hk296 (by intro i hi hs; have hs2 : i = b29 := hs; show _ ∨ _; omega)
     replace ho267 := Rfr.keep ho267 hk296 (fun q hq hs => by have hs : q = b29 := hs; have g0 := own276 q hq; have g1 := lt275 q hq; omega)
     replace ho270 := VotT.keep ho270 hk296 (fun q hq hs => by have hs : q = b29 := hs; have g0 := own281 q hq; have g1 := lt280 q hq; omega)
     refine OI_end rfl ?_
     refine X_block ?_
     have hq9 := hstp.trans (step_end hc49 hc182)
     rw [endR_set (by omega)] at ho267
     exact fun a _ => ⟨hfenb, A290, cap290, F266, F269, jr, jb1, jb3, jb5, jb7, jbs36, jbn37, jA, jA2, jhl, jhK0, by rw [hq9]; exact hb29_298, by rw [hq9]; exact hA290, by rw [hq9]; exact ho267, by rw [hq9]; exact ho270, own290, (fun q hq => by have h1 := own276 q hq; have h2 := lt275 q hq; omega), rel277, (fun q hq => by have h1 := own281 q hq; have h2 := lt280 q hq; omega), rel282, hdis272, dis279, dis286, dis284, dis283, dis293, dis294⟩
   refine V_skip ?_
   refine X_block ?_
   have hq9 := hstp.trans (step_on hc49 hc182)
   exact fun a _ => ⟨hfenb, Ak, capk, H172, Fk, jr, jb1, jb3, jb5, jb7, jbs36, jbn37, jA, jA2, jhl, jhK0, by rw [hq9]; exact jb29, by rw [hq9]; exact jAk, by rw [hq9]; exact hR173, by rw [hq9]; exact jV, ownk, (fun q hq => by have h1 := own177 q hq; have h2 := lt176 q hq; omega), rel178, (fun q hq => by have h1 := hFko q hq; have h2 := lt40 q hq; omega), hFkr, dis181, dis180, dFG, dFA2, dFA, (fun q h1 h2 => dis179 q h2 h1), dAkF⟩
 ·
  intro D M1 W hD hM ⟨Ak, capk, Hk, Fk, jr, jb1, jb3, jb5, jb7, jbs36, jbn37, jA, jA2, jhl, jhK0, jb29, jAk, jR, jV, ownk, hHko, hHkr, hFko, hFkr, dHF, dHG, dFG, dFA2, dFA, dAkH, dAkF⟩ hDD
  have hzjhK0 := Keep.size jhK0
  have hrlt := jr.lt
  have hb1lt := jb1.lt
  have hb3lt := jb3.lt
  have hb5lt := jb5.lt
  have hb7lt := jb7.lt
  have hb29lt := jb29.lt
  have hbs36lt := jbs36.lt
  have hbn37lt := jbn37.lt
  have ltjA := SlT.lt jA
  have ltjA2 := SlT.lt jA2
  have ltjAk := SlT.lt jAk
  have lt300 := Rfr.lt jR
  have lt301 := VotT.lt jV
  refine X_block ?_
  refine X_then ?_
  refine Vr ?_
  refine Oc 50 (.tmp 10) 0 (.slice Ak ((svcK ts (tot xs) now r1 ⟨s, r1, []⟩ r1.length).out.length) capk) (some 76) jb29 rfl ?_
  refine Os 2 [(8, .slice Ak ((svcK ts (tot xs) now r1 ⟨s, r1, []⟩ r1.length).out.length) capk)] ?_
  refine Oe ?_
  refine V_ret ?_
  have hfin : svcQ ts xs s rs now = svcK ts (tot xs) now r1 ⟨s, r1, []⟩ r1.length := by unfold svcQ; rw [← hr1, hr1l]
  exact leave1 (.slice Ak (svcK ts (tot xs) now r1 ⟨s, r1, []⟩ r1.length).out.length capk) (.inl rfl) hDD (fun w' hk => ⟨res_tmps rfl, ⟨Ak, capk, by rw [hfin], by rw [hfin]; exact SlT.quiet jAk hk, (fun q h => by have h1 := ownk q h; omega), ⟨Hk, Fk, by rw [hfin]; exact Rfr.quiet jR hk, by rw [hfin]; exact VotT.quiet jV hk, hHkr, hFkr, dHF, dAkH, dAkF⟩, Keep.quiet jhK0 hk (by omega)⟩⟩)
end Go.Al


namespace Go.Al
open Go Go.RowKit Go.Proofs
set_option maxRecDepth 10000 in
set_option maxHeartbeats 1000000 in
theorem kill1_spec (A9 : Option Addr) (cap9 : Nat) (es : List Evt) (bo bl : Nat) (G : Nat → Prop) (l : Nat) (xs : List Acc) (cs : List Ci) (who n : Int) (w : World) (hbo : Blk w bo [.slice A9 es.length cap9] 50) (hbl : Blk w bl [.pointer (some ⟨l, 0, none⟩)] 32) (hA9 : SlT w 3 Evt.cells A9 cap9 es) (hl : Led G w l xs cs) (hd1 : ∀ q, inA A9 q → q ≠ bo ∧ q ≠ bl) (hd2 : ∀ q, G q → 0 ≤ q ∧ q ≠ bo ∧ q ≠ bl) (hd3 : ∀ q, inA A9 q → ¬ G q) (hn : es.length ≤ 1000) (hbb : bo ≠ bl) : Calls Tryz.prog 59 #[.int .i64 who, .int .i64 n, .pointer (some ⟨bo, 0, none⟩), .pointer (some ⟨bl, 0, none⟩)] w fun e w' => ∃ A' cap', e = .returned (.tuple #[]) ∧ Blk w' bo [.slice A' (es.length + 1) cap'] 50 ∧ SlT w' 3 Evt.cells A' cap' (es ++ [Evt.mk 6 who (tkN xs who n)]) ∧ (∀ q, inA A' q → inA A9 q ∨ w.heap.size ≤ q) ∧ (∃ G', Led G' w' l (slX xs who n) cs ∧ (∀ q, G' q → G q ∨ w.heap.size ≤ q) ∧ (∀ q, inA A' q → ¬ G' q)) ∧ Keep (fun q => G q ∨ q = bo ∨ inA A9 q) w w' := by
 have hGlt := Led.lt hl
 have hllt := hGlt _ (Led.at_ hl)
 have hA9t := SlT.lt hA9
 have hbolt := hbo.lt
 have hbllt := hbl.lt
 have hGr : ∀ q, G q → G q ∨ w.heap.size ≤ q := fun _ h => .inl h
 have hK0 : Keep (fun q => G q ∨ q = bo ∨ inA A9 q) w w := Keep.refl _ _
 have hzhK0 := Keep.size hK0
 refine enterV Tryz.func59 rfl [nt who, nt n, pt bo, pt bl] 15 rfl rfl rfl ?_
 refine V_pick [(0, nt who), (1, nt n), (2, pt bo), (3, pt bl)] rfl ?_
 refine V_draws (acts [0, 5, 7, 8, 9]) G [[0, 2, 3, 4, 5, 1, 6, 7, 8, 9], [2, 3, 4, 5, 0, 1, 6, 7, 8, 9], [2, 3, 4, 5, 1, 6, 7, 0, 8, 9]] (by kernel_rfl) (by repeat first | exact sure_body (by rintro _ _ ⟨_, _, h, _⟩; exact ⟨_, h⟩) | refine sure_then ?_ | refine sure_block ?_ | refine sure_join ?_) (by kernel_rfl) ?_
 intro w2 hk1 he3 L hL4
 have hsz5 := Keep.size hk1
 replace hbo := hbo.keep hk1 (fun f => f)
 replace hbl := hbl.keep hk1 (fun f => f)
 replace hA9 := SlT.keep0 hA9 hk1
 replace hl := Led.keep hl hk1 (fun _ _ f => f)
 replace hK0 := Keep.tr hK0 (Keep.ofNone hk1)
 have qhbo := hbo
 have qhbl := hbl
 have K6 : Keep G w2 w2 := Keep.refl _ _
 simp only [List.mem_cons, List.not_mem_nil, or_false] at hL4
 rcases hL4 with rfl | rfl | rfl
 ·
  refine GI_cellA 50 (.tmp 2) 0 (.slice A9 es.length cap9) (some 6) (by kernel_rfl) (by kernel_rfl) K6 (by kernel_rfl) hbo (m := 1) (by kernel_rfl) rfl ?_
  refine Gc 32 (.tmp 3) 0 (pt l) (some 8) qhbl (fun hs => by have h1 := hd2 _ hs; omega) rfl ?_
  refine Gs [5, 1, 6, 7, 8, 9] [(0, nt who), (2, pt bo), (6, .slice A9 es.length cap9), (8, pt l), (9, nt who), (10, nt n)] ?_
  refine Gk { callee := (Callee.value (Operand.func 60)), args := #[(Operand.tmp 8), (Operand.tmp 9), (Operand.tmp 10)], argTypes := #[32, 3, 3] } 60 #[pt l, nt who, nt n] (some 11) (slash_spec G l xs cs who n _ hl) ?_
  rintro _ w9 ⟨rfl, ⟨F11, ho12, hfr13⟩, hk10⟩
  have K14 := Keep.fresh K6 hk10 (by intro i hi hs; first | exact hs | (exfalso; have h1 := hd2 i hs; have h2 := hGlt i hs; omega) | (have h1 := hd2 i hs; have h2 := hGlt i hs; show _ ∨ _; omega))
  refine ⟨_, rfl, K14, ?_⟩
  have hzK14 := Keep.size K14
  have hsz15 := Keep.size hk10
  replace hbo := hbo.keep hk10 (fun hs => by have h1 := hd2 _ hs; have h2 := hGlt _ hs; omega)
  replace hbl := hbl.keep hk10 (fun hs => by have h1 := hd2 _ hs; have h2 := hGlt _ hs; omega)
  replace hA9 := SlT.keep hA9 hk10 (fun q hq hs => (fun q h1 h2 => hd3 q h2 h1) q hs hq)
  replace hK0 := Keep.fresh hK0 hk10 (fun i hi hs => by rcases hGr i hs with h | h; exact .inl h; (exfalso; omega))
  have own17 : ∀ q, F11 q → 0 ≤ q ∧ q ≠ bo ∧ q ≠ bl := fun q hq => by rcases hfr13 q hq with h | h; (have h1 := hd2 q h; have h2 := hGlt q h; omega); omega
  have lt16 := Led.lt ho12
  have rel18 : ∀ q, F11 q → G q ∨ w.heap.size ≤ q := fun q hq => by rcases hfr13 q hq with h | h; exact hGr q h; exact .inr (by omega)
  have dis19 : ∀ q, F11 q → ¬ inA A9 q := fun q h1 h2 => by rcases hfr13 q h1 with h | h; exact (fun q h1 h2 => hd3 q h2 h1) q h h2; (have h4 := hA9t q h2; omega)
  refine Gs [7, 8, 9] [(2, pt bo), (6, .slice A9 es.length cap9), (12, .agg #[nt 6, nt who, nt (tkN xs who n)])] ?_
  refine GI_final 7 (by kernel_rfl) (by kernel_rfl) ?_
  refine OI_slit (E := 53) (zv := .agg #[nt 0, nt 0, nt 0]) (sz := 3) (by_ := 24) 50 1 #[(0, (Operand.tmp 12))] [.agg #[nt 6, nt who, nt (tkN xs who n)]] [nt 6, nt who, nt (tkN xs who n)] (some 13) (by kernel_rfl) (by kernel_rfl) (by kernel_rfl) (by omega) rfl (by omega) (by intro v hv; simp only [List.mem_cons, List.not_mem_nil, or_false] at hv; rcases hv with rfl <;> rfl) (by kernel_rfl) rfl ?_
  intro b20 w20 e20 hb20 k20 z20
  have hsz21 := Keep.size k20
  replace hbo := hbo.keep k20 (fun f => f)
  replace hbl := hbl.keep k20 (fun f => f)
  replace hA9 := SlT.keep0 hA9 k20
  replace hK0 := Keep.tr hK0 (Keep.ofNone k20)
  replace ho12 := Led.keep ho12 k20 (fun _ _ f => f)
  have hb20lt := hb20.lt
  refine OI_append (t := 50) (at2 := 50) (E := 53) (E2 := 53) (sz := 3) (by_ := 24) (zv := .agg #[nt 0, nt 0, nt 0]) (m := es.length) (k := 1) (.tmp 6) (.tmp 13) (.slice A9 es.length cap9) (.slice (some ⟨b20, 0, none⟩) 1 1) (some 14) (by kernel_rfl) (by kernel_rfl) (by kernel_rfl) (by kernel_rfl) (by kernel_rfl) (by kernel_rfl) (by kernel_rfl) (SlT.slr hA9) (slr_one hb20 (Evt.len (Evt.mk 6 who (tkN xs who n)))) (Evt.one (Evt.mk 6 who (tkN xs who n))) (by first | omega | (simp only [List.length_nil]; omega)) (by omega) (by first | omega | (simp only [List.length_nil]; omega)) (by omega) ?_
  intro vv9 w22 hap
  obtain ⟨A22, cap22, rfl, hA22, hk22, own22x⟩ := app_one (f := Evt.cells) (xs := es) (x := (Evt.mk 6 who (tkN xs who n))) (A := A9) (cap := cap9) hap (fun x _ => Evt.len x) (Evt.len _)
  have own22 : ∀ q, inA A22 q → q ≠ bo ∧ q ≠ bl := fun q hq => by rcases own22x q hq with h | h; exact hd1 q h; (show q ≠ bo ∧ q ≠ bl; omega)
  have hsz23 := Keep.size hk22
  replace hbo := hbo.keep hk22 (fun hs => by have h1 := hd1 _ hs; have h2 := hA9t _ hs; omega)
  replace hbl := hbl.keep hk22 (fun hs => by have h1 := hd1 _ hs; have h2 := hA9t _ hs; omega)
  replace hK0 := Keep.fresh hK0 hk22 (fun i hi hs => by exact .inr (.inr hs))
  replace ho12 := Led.keep ho12 hk22 (fun q hq hs => (fun q h1 h2 => dis19 q h2 h1) q hs hq)
  have lt22 := SlT.lt hA22
  refine OI_set (m := 1) (kd := false) 50 (.tmp 2) (.tmp 14) 0 (.slice A22 ((es ++ [Evt.mk 6 who (tkN xs who n)]).length) cap22) [.slice A22 ((es ++ [Evt.mk 6 who (tkN xs who n)]).length) cap22] none (by kernel_rfl) (by kernel_rfl) (by kernel_rfl) hbo (by kernel_rfl) (by kernel_rfl) (by kernel_rfl) (Nat.le_of_ble_eq_true (by kernel_rfl)) (by simp [Value.oneCell']) ?_
  intro w24 hbo_27 hk25 hz26
  replace hbo_27 : Blk w24 bo [.slice A22 ((es ++ [Evt.mk 6 who (tkN xs who n)]).length) cap22] 50 := hbo_27
  have hsz28 := Keep.size hk25
  replace hbl := hbl.keep hk25 (by show ¬ (_ = _); omega)
  replace hA22 := SlT.keep hA22 hk25 (fun q hq hs => by have hs : q = bo := hs; have g0 := own22 q hq; have g1 := lt22 q hq; omega)
  replace hK0 := Keep.fresh hK0 hk25 (by intro i hi hs; exact .inr (.inl hs))
  replace ho12 := Led.keep ho12 hk25 (fun q hq hs => by have hs : q = bo := hs; have g0 := own17 q hq; have g1 := lt16 q hq; omega)
  refine OI_end rfl ?_
  exact X_end _ rfl ⟨A22, cap22, rfl, by simpa using hbo_27, hA22, (fun q h => by rcases own22x q h with h | h; exact .inl h; exact .inr (by omega)), ⟨F11, ho12, rel18, (fun q h1 h2 => by rcases own22x q h1 with h | h; exact dis19 q h2 h; (have h4 := lt16 q h2; omega))⟩, hK0⟩
 ·
  refine Gc 32 (.tmp 3) 0 (pt l) (some 8) qhbl (fun hs => by have h1 := hd2 _ hs; omega) rfl ?_
  refine Gs [5, 0, 1, 6, 7, 8, 9] [(0, nt who), (2, pt bo), (8, pt l), (9, nt who), (10, nt n)] ?_
  refine Gk { callee := (Callee.value (Operand.func 60)), args := #[(Operand.tmp 8), (Operand.tmp 9), (Operand.tmp 10)], argTypes := #[32, 3, 3] } 60 #[pt l, nt who, nt n] (some 11) (slash_spec G l xs cs who n _ hl) ?_
  rintro _ w31 ⟨rfl, ⟨F33, ho34, hfr35⟩, hk32⟩
  have K36 := Keep.fresh K6 hk32 (by intro i hi hs; first | exact hs | (exfalso; have h1 := hd2 i hs; have h2 := hGlt i hs; omega) | (have h1 := hd2 i hs; have h2 := hGlt i hs; show _ ∨ _; omega))
  refine ⟨_, rfl, K36, ?_⟩
  have hzK36 := Keep.size K36
  have hsz37 := Keep.size hk32
  replace hbo := hbo.keep hk32 (fun hs => by have h1 := hd2 _ hs; have h2 := hGlt _ hs; omega)
  replace hbl := hbl.keep hk32 (fun hs => by have h1 := hd2 _ hs; have h2 := hGlt _ hs; omega)
  replace hA9 := SlT.keep hA9 hk32 (fun q hq hs => (fun q h1 h2 => hd3 q h2 h1) q hs hq)
  replace hK0 := Keep.fresh hK0 hk32 (fun i hi hs => by rcases hGr i hs with h | h; exact .inl h; (exfalso; omega))
  have own39 : ∀ q, F33 q → 0 ≤ q ∧ q ≠ bo ∧ q ≠ bl := fun q hq => by rcases hfr35 q hq with h | h; (have h1 := hd2 q h; have h2 := hGlt q h; omega); omega
  have lt38 := Led.lt ho34
  have rel40 : ∀ q, F33 q → G q ∨ w.heap.size ≤ q := fun q hq => by rcases hfr35 q hq with h | h; exact hGr q h; exact .inr (by omega)
  have dis41 : ∀ q, F33 q → ¬ inA A9 q := fun q h1 h2 => by rcases hfr35 q h1 with h | h; exact (fun q h1 h2 => hd3 q h2 h1) q h h2; (have h4 := hA9t q h2; omega)
  refine GI_cellA 50 (.tmp 2) 0 (.slice A9 es.length cap9) (some 6) (by kernel_rfl) (by kernel_rfl) K36 (by kernel_rfl) hbo (m := 1) (by kernel_rfl) rfl ?_
  refine Gs [7, 8, 9] [(2, pt bo), (6, .slice A9 es.length cap9), (12, .agg #[nt 6, nt who, nt (tkN xs who n)])] ?_
  refine GI_final 7 (by kernel_rfl) (by kernel_rfl) ?_
  refine OI_slit (E := 53) (zv := .agg #[nt 0, nt 0, nt 0]) (sz := 3) (by_ := 24) 50 1 #[(0, (Operand.tmp 12))] [.agg #[nt 6, nt who, nt (tkN xs who n)]] [nt 6, nt who, nt (tkN xs who n)] (some 13) (by kernel_rfl) (by kernel_rfl) (by kernel_rfl) (by omega) rfl (by omega) (by intro v hv; simp only [List.mem_cons, List.not_mem_nil, or_false] at hv; rcases hv with rfl <;> rfl) (by kernel_rfl) rfl ?_
  intro b42 w42 e42 hb42 k42 z42
  have hsz43 := Keep.size k42
  replace hbo := hbo.keep k42 (fun f => f)
  replace hbl := hbl.keep k42 (fun f => f)
  replace hA9 := SlT.keep0 hA9 k42
  replace hK0 := Keep.tr hK0 (Keep.ofNone k42)
  replace ho34 := Led.keep ho34 k42 (fun _ _ f => f)
  have hb42lt := hb42.lt
  refine OI_append (t := 50) (at2 := 50) (E := 53) (E2 := 53) (sz := 3) (by_ := 24) (zv := .agg #[nt 0, nt 0, nt 0]) (m := es.length) (k := 1) (.tmp 6) (.tmp 13) (.slice A9 es.length cap9) (.slice (some ⟨b42, 0, none⟩) 1 1) (some 14) (by kernel_rfl) (by kernel_rfl) (by kernel_rfl) (by kernel_rfl) (by kernel_rfl) (by kernel_rfl) (by kernel_rfl) (SlT.slr hA9) (slr_one hb42 (Evt.len (Evt.mk 6 who (tkN xs who n)))) (Evt.one (Evt.mk 6 who (tkN xs who n))) (by first | omega | (simp only [List.length_nil]; omega)) (by omega) (by first | omega | (simp only [List.length_nil]; omega)) (by omega) ?_
  intro vv9 w44 hap
  obtain ⟨A44, cap44, rfl, hA44, hk44, own44x⟩ := app_one (f := Evt.cells) (xs := es) (x := (Evt.mk 6 who (tkN xs who n))) (A := A9) (cap := cap9) hap (fun x _ => Evt.len x) (Evt.len _)
  have own44 : ∀ q, inA A44 q → q ≠ bo ∧ q ≠ bl := fun q hq => by rcases own44x q hq with h | h; exact hd1 q h; (show q ≠ bo ∧ q ≠ bl; omega)
  have hsz45 := Keep.size hk44
  replace hbo := hbo.keep hk44 (fun hs => by have h1 := hd1 _ hs; have h2 := hA9t _ hs; omega)
  replace hbl := hbl.keep hk44 (fun hs => by have h1 := hd1 _ hs; have h2 := hA9t _ hs; omega)
  replace hK0 := Keep.fresh hK0 hk44 (fun i hi hs => by exact .inr (.inr hs))
  replace ho34 := Led.keep ho34 hk44 (fun q hq hs => (fun q h1 h2 => dis41 q h2 h1) q hs hq)
  have lt44 := SlT.lt hA44
  refine OI_set (m := 1) (kd := false) 50 (.tmp 2) (.tmp 14) 0 (.slice A44 ((es ++ [Evt.mk 6 who (tkN xs who n)]).length) cap44) [.slice A44 ((es ++ [Evt.mk 6 who (tkN xs who n)]).length) cap44] none (by kernel_rfl) (by kernel_rfl) (by kernel_rfl) hbo (by kernel_rfl) (by kernel_rfl) (by kernel_rfl) (Nat.le_of_ble_eq_true (by kernel_rfl)) (by simp [Value.oneCell']) ?_
  intro w46 hbo_49 hk47 hz48
  replace hbo_49 : Blk w46 bo [.slice A44 ((es ++ [Evt.mk 6 who (tkN xs who n)]).length) cap44] 50 := hbo_49
  have hsz50 := Keep.size hk47
  replace hbl := hbl.keep hk47 (by show ¬ (_ = _); omega)
  replace hA44 := SlT.keep hA44 hk47 (fun q hq hs => by have hs : q = bo := hs; have g0 := own44 q hq; have g1 := lt44 q hq; omega)
  replace hK0 := Keep.fresh hK0 hk47 (by intro i hi hs; exact .inr (.inl hs))
  replace ho34 := Led.keep ho34 hk47 (fun q hq hs => by have hs : q = bo := hs; have g0 := own39 q hq; have g1 := lt38 q hq; omega)
  refine OI_end rfl ?_
  exact X_end _ rfl ⟨A44, cap44, rfl, by simpa using hbo_49, hA44, (fun q h => by rcases own44x q h with h | h; exact .inl h; exact .inr (by omega)), ⟨F33, ho34, rel40, (fun q h1 h2 => by rcases own44x q h1 with h | h; exact dis41 q h2 h; (have h4 := lt38 q h2; omega))⟩, hK0⟩
 ·
  refine Gc 32 (.tmp 3) 0 (pt l) (some 8) qhbl (fun hs => by have h1 := hd2 _ hs; omega) rfl ?_
  refine Gs [5, 1, 6, 7, 0, 8, 9] [(0, nt who), (2, pt bo), (8, pt l), (9, nt who), (10, nt n)] ?_
  refine Gk { callee := (Callee.value (Operand.func 60)), args := #[(Operand.tmp 8), (Operand.tmp 9), (Operand.tmp 10)], argTypes := #[32, 3, 3] } 60 #[pt l, nt who, nt n] (some 11) (slash_spec G l xs cs who n _ hl) ?_
  rintro _ w53 ⟨rfl, ⟨F55, ho56, hfr57⟩, hk54⟩
  have K58 := Keep.fresh K6 hk54 (by intro i hi hs; first | exact hs | (exfalso; have h1 := hd2 i hs; have h2 := hGlt i hs; omega) | (have h1 := hd2 i hs; have h2 := hGlt i hs; show _ ∨ _; omega))
  refine ⟨_, rfl, K58, ?_⟩
  have hzK58 := Keep.size K58
  have hsz59 := Keep.size hk54
  replace hbo := hbo.keep hk54 (fun hs => by have h1 := hd2 _ hs; have h2 := hGlt _ hs; omega)
  replace hbl := hbl.keep hk54 (fun hs => by have h1 := hd2 _ hs; have h2 := hGlt _ hs; omega)
  replace hA9 := SlT.keep hA9 hk54 (fun q hq hs => (fun q h1 h2 => hd3 q h2 h1) q hs hq)
  replace hK0 := Keep.fresh hK0 hk54 (fun i hi hs => by rcases hGr i hs with h | h; exact .inl h; (exfalso; omega))
  have own61 : ∀ q, F55 q → 0 ≤ q ∧ q ≠ bo ∧ q ≠ bl := fun q hq => by rcases hfr57 q hq with h | h; (have h1 := hd2 q h; have h2 := hGlt q h; omega); omega
  have lt60 := Led.lt ho56
  have rel62 : ∀ q, F55 q → G q ∨ w.heap.size ≤ q := fun q hq => by rcases hfr57 q hq with h | h; exact hGr q h; exact .inr (by omega)
  have dis63 : ∀ q, F55 q → ¬ inA A9 q := fun q h1 h2 => by rcases hfr57 q h1 with h | h; exact (fun q h1 h2 => hd3 q h2 h1) q h h2; (have h4 := hA9t q h2; omega)
  refine Gs [7, 0, 8, 9] [(2, pt bo), (12, .agg #[nt 6, nt who, nt (tkN xs who n)])] ?_
  refine GI_slit (E := 53) (zv := .agg #[nt 0, nt 0, nt 0]) (sz := 3) (by_ := 24) 50 1 #[(0, (Operand.tmp 12))] [.agg #[nt 6, nt who, nt (tkN xs who n)]] [nt 6, nt who, nt (tkN xs who n)] (some 13) (by kernel_rfl) (by kernel_rfl) K58 (by kernel_rfl) (by kernel_rfl) (by omega) rfl (by omega) (by intro v hv; simp only [List.mem_cons, List.not_mem_nil, or_false] at hv; rcases hv with rfl <;> rfl) (by kernel_rfl) rfl ?_
  intro b64 w64 e64 hb64 k64 z64 K65
  have hsz66 := Keep.size k64
  replace hbo := hbo.keep k64 (fun f => f)
  replace hbl := hbl.keep k64 (fun f => f)
  replace hA9 := SlT.keep0 hA9 k64
  replace hK0 := Keep.tr hK0 (Keep.ofNone k64)
  replace ho56 := Led.keep ho56 k64 (fun _ _ f => f)
  have hb64lt := hb64.lt
  refine GI_cellA 50 (.tmp 2) 0 (.slice A9 es.length cap9) (some 6) (by kernel_rfl) (by kernel_rfl) K65 (by kernel_rfl) hbo (m := 1) (by kernel_rfl) rfl ?_
  refine GI_final 8 (by kernel_rfl) (by kernel_rfl) ?_
  refine OI_append (t := 50) (at2 := 50) (E := 53) (E2 := 53) (sz := 3) (by_ := 24) (zv := .agg #[nt 0, nt 0, nt 0]) (m := es.length) (k := 1) (.tmp 6) (.tmp 13) (.slice A9 es.length cap9) (.slice (some ⟨b64, 0, none⟩) 1 1) (some 14) (by kernel_rfl) (by kernel_rfl) (by kernel_rfl) (by kernel_rfl) (by kernel_rfl) (by kernel_rfl) (by kernel_rfl) (SlT.slr hA9) (slr_one hb64 (Evt.len (Evt.mk 6 who (tkN xs who n)))) (Evt.one (Evt.mk 6 who (tkN xs who n))) (by first | omega | (simp only [List.length_nil]; omega)) (by omega) (by first | omega | (simp only [List.length_nil]; omega)) (by omega) ?_
  intro vv9 w67 hap
  obtain ⟨A67, cap67, rfl, hA67, hk67, own67x⟩ := app_one (f := Evt.cells) (xs := es) (x := (Evt.mk 6 who (tkN xs who n))) (A := A9) (cap := cap9) hap (fun x _ => Evt.len x) (Evt.len _)
  have own67 : ∀ q, inA A67 q → q ≠ bo ∧ q ≠ bl := fun q hq => by rcases own67x q hq with h | h; exact hd1 q h; (show q ≠ bo ∧ q ≠ bl; omega)
  have hsz68 := Keep.size hk67
  replace hbo := hbo.keep hk67 (fun hs => by have h1 := hd1 _ hs; have h2 := hA9t _ hs; omega)
  replace hbl := hbl.keep hk67 (fun hs => by have h1 := hd1 _ hs; have h2 := hA9t _ hs; omega)
  replace hK0 := Keep.fresh hK0 hk67 (fun i hi hs => by exact .inr (.inr hs))
  replace ho56 := Led.keep ho56 hk67 (fun q hq hs => (fun q h1 h2 => dis63 q h2 h1) q hs hq)
  have lt67 := SlT.lt hA67
  refine OI_set (m := 1) (kd := false) 50 (.tmp 2) (.tmp 14) 0 (.slice A67 ((es ++ [Evt.mk 6 who (tkN xs who n)]).length) cap67) [.slice A67 ((es ++ [Evt.mk 6 who (tkN xs who n)]).length) cap67] none (by kernel_rfl) (by kernel_rfl) (by kernel_rfl) hbo (by kernel_rfl) (by kernel_rfl) (by kernel_rfl) (Nat.le_of_ble_eq_true (by kernel_rfl)) (by simp [Value.oneCell']) ?_
  intro w69 hbo_72 hk70 hz71
  replace hbo_72 : Blk w69 bo [.slice A67 ((es ++ [Evt.mk 6 who (tkN xs who n)]).length) cap67] 50 := hbo_72
  have hsz73 := Keep.size hk70
  replace hbl := hbl.keep hk70 (by show ¬ (_ = _); omega)
  replace hA67 := SlT.keep hA67 hk70 (fun q hq hs => by have hs : q = bo := hs; have g0 := own67 q hq; have g1 := lt67 q hq; omega)
  replace hK0 := Keep.fresh hK0 hk70 (by intro i hi hs; exact .inr (.inl hs))
  replace ho56 := Led.keep ho56 hk70 (fun q hq hs => by have hs : q = bo := hs; have g0 := own61 q hq; have g1 := lt60 q hq; omega)
  refine OI_end rfl ?_
  exact X_end _ rfl ⟨A67, cap67, rfl, by simpa using hbo_72, hA67, (fun q h => by rcases own67x q h with h | h; exact .inl h; exact .inr (by omega)), ⟨F55, ho56, rel62, (fun q h1 h2 => by rcases own67x q h1 with h | h; exact dis63 q h2 h; (have h4 := lt60 q h2; omega))⟩, hK0⟩
end Go.Al


namespace Go.Al
open Go Go.RowKit Go.Proofs
set_option maxRecDepth 10000 in
set_option maxHeartbeats 2000000 in
theorem kill_go (H : Nat → Prop) (r g : Nat) (ts : List Trk) (rs : List Rfm) (F : Nat → Prop) (v : Nat) (s : VS) (G : Nat → Prop) (l : Nat) (xs : List Acc) (cs : List Ci) (ref now : Int) (w : World) (hR : Rfr H w r g ts rs) (hV : VotT F w v s) (hl : Led G w l xs cs) (hHF : ∀ q, H q → ¬ F q) (hHG : ∀ q, H q → ¬ G q) (hFG : ∀ q, F q → ¬ G q) (hong : ongE rs ref = 0) : Calls Tryz.prog 28 #[.pointer (some ⟨r, 0, none⟩), .pointer (some ⟨l, 0, none⟩), .pointer (some ⟨v, 0, none⟩), .int .i64 ref, .int .i64 now] w fun e w' => ∃ A' cap', e = .returned (.tuple #[.slice A' (kilL xs ts rs ref).length cap', .int .i64 (ongE rs ref)]) ∧ SlT w' 3 Evt.cells A' cap' (kilL xs ts rs ref) ∧ (∀ q, inA A' q → w.heap.size ≤ q) ∧ (∃ H' F' G', Rfr H' w' r g ts (kilR s rs ref now) ∧ VotT F' w' v (kilS s rs ref now) ∧ Led G' w' l (kilX xs ts rs ref) cs ∧ (∀ q, H' q → H q ∨ w.heap.size ≤ q) ∧ (∀ q, F' q → F q ∨ w.heap.size ≤ q) ∧ (∀ q, G' q → G q ∨ w.heap.size ≤ q) ∧ (∀ q, H' q → ¬ F' q) ∧ (∀ q, H' q → ¬ G' q) ∧ (∀ q, F' q → ¬ G' q) ∧ (∀ q, inA A' q → ¬ H' q) ∧ (∀ q, inA A' q → ¬ F' q) ∧ (∀ q, inA A' q → ¬ G' q)) ∧ Keep (fun q => q = g ∨ F q ∨ G q) w w' := by
 have hHlt := Rfr.lt hR
 have hrH := Rfr.at_ hR
 have hgH := Rfr.atg hR
 have hrlt := hHlt _ hrH
 have hglt := hHlt _ hgH
 have hin := Rfr.inn hR
 obtain ⟨A, cap, hr, hA, hAo, hrg⟩ := Rfr.parts hR
 have hAlt := SlT.lt hA
 have hAr : ∀ q, inA A q → q ≠ r ∧ q ≠ g ∧ q < w.heap.size := fun q hq => ⟨(hAo q hq).2.1, (hAo q hq).2.2, hAlt q hq⟩
 have hgo : ∀ q, only g q → q ≠ r ∧ q = g := fun q hq => ⟨fun e => hrg (e.symm.trans hq), hq⟩
 have hgl : ∀ q, only g q → q < w.heap.size := fun q hq => by rw [show q = g from hq]; exact hglt
 have hHo : ∀ q, H q → 0 ≤ q := fun q _ => Nat.zero_le q
 have htl := hin.tl
 have hrl := hin.rl
 have hFlt := VotT.lt hV
 have hvlt := hFlt _ (VotT.at_ hV)
 have hVr : ∀ q, F q → q ≠ r := fun q hq e => hHF r hrH (e ▸ hq)
 have hGlt := Led.lt hl
 have hllt := hGlt _ (Led.at_ hl)
 have hlr : ∀ q, G q → q ≠ r := fun q hq e => hHG r hrH (e ▸ hq)
 have hinv := Led.inv hl
 have hHr : ∀ q, H q → H q ∨ w.heap.size ≤ q := fun _ h => .inl h
 have hFr : ∀ q, F q → F q ∨ w.heap.size ≤ q := fun _ h => .inl h
 have hGr : ∀ q, G q → G q ∨ w.heap.size ≤ q := fun _ h => .inl h
 have hx := ong_some hong
 obtain ⟨href, htr, hrat⟩ := getA_at hin hx
 obtain ⟨jt, hjt, hjl, htk, htm⟩ := trkA_at htr
 have hokt := hin.tok _ htm
 have hdep : 0 ≤ (trkA ts (getA rs ref).track).deposit ∧ (trkA ts (getA rs ref).track).deposit ≤ 1073741824 := hokt.2.1
 have hK0 : Keep (fun q => q = g ∨ F q ∨ G q) w w := Keep.refl _ _
 have hzhK0 := Keep.size hK0
 refine enterV Tryz.func28 rfl [pt r, pt l, pt v, nt ref, nt now] 78 rfl rfl rfl ?_
 refine V_pick [(0, pt r), (1, pt l), (2, pt v), (3, nt ref), (4, nt now)] rfl ?_
 refine Vr ?_
 refine OI_box 32 (.tmp 1) (pt l) [pt l] (some 6) (by kernel_rfl) (by kernel_rfl) (by kernel_rfl) ?_
 intro b1 w1 e1 hb1 k1 z1
 have hsz2 := Keep.size k1
 replace hr := hr.keep k1 (fun f => f)
 replace hA := SlT.keep0 hA k1
 replace hR := Rfr.keep hR k1 (fun _ _ f => f)
 replace hV := VotT.keep hV k1 (fun _ _ f => f)
 replace hl := Led.keep hl k1 (fun _ _ f => f)
 replace hK0 := Keep.tr hK0 (Keep.ofNone k1)
 have hb1lt := hb1.lt
 refine Os 3 [(0, pt r), (2, pt v), (3, nt ref), (4, nt now), (6, pt b1)] ?_
 refine Oe ?_
 refine V_seq ?_
 refine Vr ?_
 refine Os 3 [(0, pt r), (2, pt v), (3, nt ref), (4, nt now), (6, pt b1), (19, .bool false)] ?_
 refine Oc 32 (.tmp 6) 0 (pt l) (some 20) hb1 rfl ?_
 refine Os 10 [(0, pt r), (2, pt v), (3, nt ref), (4, nt now), (6, pt b1), (26, .bool false)] ?_
 refine Oe ?_
 refine V_false rfl ?_
 refine V_skip ?_
 refine X_then ?_
 refine V_seq ?_
 refine Vr ?_
 refine Os 2 [(0, pt r), (2, pt v), (3, nt ref), (4, nt now), (6, pt b1), (27, pt r), (28, nt ref)] ?_
 refine Ok { callee := (Callee.value (Operand.func 54)), args := #[(Operand.tmp 27), (Operand.tmp 28)], argTypes := #[34, 3] } 54 #[pt r, nt ref] (some 29) (ongoing_spec H r g ts rs ref _ hR) ?_
 rintro _ w5 ⟨rfl, hk6⟩
 refine ⟨_, rfl, ?_⟩
 have hsz7 := Keep.size hk6
 replace hr := hr.keep hk6 (fun f => f)
 replace hb1 := hb1.keep hk6 (fun f => f)
 replace hA := SlT.keep0 hA hk6
 replace hR := Rfr.keep hR hk6 (fun _ _ f => f)
 replace hV := VotT.keep hV hk6 (fun _ _ f => f)
 replace hl := Led.keep hl hk6 (fun _ _ f => f)
 replace hK0 := Keep.tr hK0 (Keep.ofNone hk6)
 refine Os 4 [(0, pt r), (2, pt v), (3, nt ref), (4, nt now), (6, pt b1), (12, nt (ongE rs ref))] ?_
 refine Oer ?_
 refine Os 2 [(0, pt r), (2, pt v), (3, nt ref), (4, nt now), (6, pt b1), (12, nt (ongE rs ref)), (31, .bool (!(decide (ongE rs ref = 0))))] ?_
 refine Oe ?_
 refine V_eq [(0, pt r), (2, pt v), (3, nt ref), (4, nt now), (6, pt b1), (12, nt (ongE rs ref)), (31, .bool false)] (by rw [decide_eq_true hong]; rfl) ?_
 refine V_false rfl ?_
 refine V_skip ?_
 refine X_then ?_
 refine Vr ?_
 refine Os 4 [(0, pt r), (3, nt ref), (6, pt b1), (33, pt r), (34, pt v), (35, nt ref), (36, nt now)] ?_
 refine Ok { callee := (Callee.value (Operand.func 52)), args := #[(Operand.tmp 33), (Operand.tmp 34), (Operand.tmp 35), (Operand.const (Value.int IntKind.i64 6)), (Operand.tmp 36)], argTypes := #[34, 33, 3, 3, 3] } 52 #[pt r, pt v, nt ref, nt 6, nt now] (some 37) (ends_spec H r g ts rs F v s ref 6 now _ hR hV hHF (ong_some hong)) ?_
 rintro _ w11 ⟨rfl, ⟨F13, F16, ho14, ho17, hfr15, hfr18, hdis19⟩, hk12⟩
 refine ⟨_, rfl, ?_⟩
 have hsz20 := Keep.size hk12
 replace hr := hr.keep hk12 (fun hs => by rcases hs with hs | hs; (have u0 := hgo _ hs; have u1 := hgl _ hs; omega); (have u0 := hVr _ hs; have u1 := hFlt _ hs; omega))
 replace hb1 := hb1.keep hk12 (fun hs => by rcases hs with hs | hs; (have u0 := hgo _ hs; have u1 := hgl _ hs; omega); (have u0 := hVr _ hs; have u1 := hFlt _ hs; omega))
 replace hA := SlT.keep hA hk12 (fun q hq hs => by rcases hs with hs | hs; exact (hAo q hq).2.2 hs; exact (fun q h1 h2 => hHF q (hAo q h1).1 h2) q hq hs)
 replace hl := Led.keep hl hk12 (fun q hq hs => by rcases hs with hs | hs; exact (fun q h1 h2 => hHG q h2 h1) q hq (by rw [show q = g from hs]; exact hgH); exact (fun q h1 h2 => hFG q h2 h1) q hq hs)
 replace hK0 := Keep.fresh hK0 hk12 (fun i hi hs => by rcases hs with hs | hs; (exact .inl hs); (rcases hFr i hs with h | h; exact .inr <| .inl h; (exfalso; omega)))
 have own22 : ∀ q, F13 q → 0 ≤ q ∧ q ≠ b1 := fun q hq => by rcases hfr15 q hq with h | h; (have h1 := hHo q h; have h2 := hHlt q h; omega); omega
 have lt21 := Rfr.lt ho14
 have rel23 : ∀ q, F13 q → H q ∨ w.heap.size ≤ q := fun q hq => by rcases hfr15 q hq with h | h; exact hHr q h; exact .inr (by omega)
 have dis24 : ∀ q, F13 q → ¬ G q := fun q h1 h2 => by rcases hfr15 q h1 with h | h; exact hHG q h h2; (have h4 := hGlt q h2; omega)
 have own26 : ∀ q, F16 q → q ≠ r ∧ q ≠ r ∧ q ≠ b1 := fun q hq => by rcases hfr18 q hq with h | h; (have h1 := hVr q h; have h2 := hFlt q h; omega); omega
 have lt25 := VotT.lt ho17
 have rel27 : ∀ q, F16 q → F q ∨ w.heap.size ≤ q := fun q hq => by rcases hfr18 q hq with h | h; exact hFr q h; exact .inr (by omega)
 have dis28 : ∀ q, F16 q → ¬ inA A q := fun q h1 h2 => by rcases hfr18 q h1 with h | h; exact (fun q h1 h2 => hHF q (hAo q h2).1 h1) q h h2; (have h4 := hAlt q h2; omega)
 have dis29 : ∀ q, F16 q → ¬ G q := fun q h1 h2 => by rcases hfr18 q h1 with h | h; exact hFG q h h2; (have h4 := hGlt q h2; omega)
 refine OI_slit (E := 53) (zv := .agg #[nt 0, nt 0, nt 0]) (sz := 3) (by_ := 24) 50 1 #[(0, (Operand.tmp 37))] [.agg (Evt.cells (Evt.mk 1 ref 6)).toArray] (Evt.cells (Evt.mk 1 ref 6)) (some 38) (by kernel_rfl) (by kernel_rfl) (by kernel_rfl) (by omega) rfl (by omega) (by intro v hv; obtain rfl := List.mem_singleton.1 hv; show (Evt.cells (Evt.mk 1 ref 6)).toArray.size = 3; simp [Evt.len]) (by kernel_rfl) (by show (Evt.cells (Evt.mk 1 ref 6)).toArray.toList ++ [] = _; simp) ?_
 intro b30 w30 e30 hb30 k30 z30
 have hsz31 := Keep.size k30
 replace hr := hr.keep k30 (fun f => f)
 replace hb1 := hb1.keep k30 (fun f => f)
 replace hA := SlT.keep0 hA k30
 replace hl := Led.keep hl k30 (fun _ _ f => f)
 replace hK0 := Keep.tr hK0 (Keep.ofNone k30)
 replace ho14 := Rfr.keep ho14 k30 (fun _ _ f => f)
 replace ho17 := VotT.keep ho17 k30 (fun _ _ f => f)
 have hb30lt := hb30.lt
 refine OI_alloc 50 (.slice none 0 0) [.slice none 0 0] (some 13) (by kernel_rfl) (by kernel_rfl) (by kernel_rfl) ?_
 intro b32 w32 e32 hb32 k32 z32
 have hsz33 := Keep.size k32
 replace hr := hr.keep k32 (fun f => f)
 replace hb1 := hb1.keep k32 (fun f => f)
 replace hb30 := hb30.keep k32 (fun f => f)
 replace hA := SlT.keep0 hA k32
 replace hl := Led.keep hl k32 (fun _ _ f => f)
 replace hK0 := Keep.tr hK0 (Keep.ofNone k32)
 replace ho14 := Rfr.keep ho14 k32 (fun _ _ f => f)
 replace ho17 := VotT.keep ho17 k32 (fun _ _ f => f)
 have hb32lt := hb32.lt
 refine OI_set (m := 1) (kd := false) 50 (.tmp 13) (.tmp 38) 0 (.slice (some ⟨b30, 0, none⟩) 1 1) [.slice (some ⟨b30, 0, none⟩) 1 1] none (by kernel_rfl) (by kernel_rfl) (by kernel_rfl) hb32 (by kernel_rfl) (by kernel_rfl) (by kernel_rfl) (Nat.le_of_ble_eq_true (by kernel_rfl)) (by simp [Value.oneCell']) ?_
 intro w34 hb32_37 hk35 hz36
 replace hb32_37 : Blk w34 b32 [.slice (some ⟨b30, 0, none⟩) 1 1] 50 := hb32_37
 have hsz38 := Keep.size hk35
 replace hr := hr.keep hk35 (by show ¬ (_ = _); omega)
 replace hb1 := hb1.keep hk35 (by show ¬ (_ = _); omega)
 replace hb30 := hb30.keep hk35 (by show ¬ (_ = _); omega)
 replace hA := SlT.keep hA hk35 (fun q hq hs => by have hs : q = b32 := hs; have g0 := hAr q hq; have g1 := hAlt q hq; omega)
 replace hl := Led.keep hl hk35 (fun q hq hs => by have hs : q = b32 := hs; have g0 := hlr q hq; have g1 := hGlt q hq; omega)
 replace hK0 := Keep.fresh hK0 hk35 (by intro i hi hs; first | exact hs | exact Or.inl hs | exact Or.inr hs | (exfalso; have hs2 : i = b32 := hs; omega))
 replace ho14 := Rfr.keep ho14 hk35 (fun q hq hs => by have hs : q = b32 := hs; have g0 := own22 q hq; have g1 := lt21 q hq; omega)
 replace ho17 := VotT.keep ho17 hk35 (fun q hq hs => by have hs : q = b32 := hs; have g0 := own26 q hq; have g1 := lt25 q hq; omega)
 refine Oer ?_
 refine Os 2 [(0, pt r), (3, nt ref), (6, pt b1), (13, pt b32), (40, pt r), (41, nt ref)] ?_
 obtain ⟨hge1, hge2, hge3⟩ := endR_at (s := s) (st := 6) (now := now) (ong_some hong)
 refine Ok { callee := (Callee.value (Operand.func 23)), args := #[(Operand.tmp 40), (Operand.tmp 41)], argTypes := #[34, 3] } 23 #[pt r, nt ref] (some 42) (rget_spec F13 r g ts (endR s rs ref 6 now) ref _ ho14) ?_
 rintro _ w41 ⟨rfl, hk42⟩
 refine ⟨_, rfl, ?_⟩
 have hsz43 := Keep.size hk42
 replace hr := hr.keep hk42 (fun f => f)
 replace hb1 := hb1.keep hk42 (fun f => f)
 replace hb30 := hb30.keep hk42 (fun f => f)
 replace hb32_37 := hb32_37.keep hk42 (fun f => f)
 replace hA := SlT.keep0 hA hk42
 replace hl := Led.keep hl hk42 (fun _ _ f => f)
 replace hK0 := Keep.tr hK0 (Keep.ofNone hk42)
 replace ho14 := Rfr.keep ho14 hk42 (fun _ _ f => f)
 replace ho17 := VotT.keep ho17 hk42 (fun _ _ f => f)
 refine Op_ [(0, pt r), (3, nt ref), (6, pt b1), (13, pt b32), (42, .tuple #[.agg (Rfm.cells (getA (endR s rs ref 6 now) ref)).toArray, .bool ((getR (endR s rs ref 6 now) ref).isSome)])] ?_
 refine OI_eq [(0, pt r), (3, nt ref), (6, pt b1), (13, pt b32), (42, .tuple #[.agg (Rfm.cells (endY s (getA rs ref) ref 6 now)).toArray, .bool true])] (by rw [hge2, hge1]; rfl) ?_
 refine Os 6 [(0, pt r), (3, nt ref), (6, pt b1), (13, pt b32), (43, .agg (Rfm.cells (endY s (getA rs ref) ref 6 now)).toArray), (44, .bool true)] ?_
 refine OI_alloc 57 (.agg (Rfm.cells Rfm.zero).toArray) (Rfm.cells Rfm.zero) (some 14) (by kernel_rfl) (by kernel_rfl) (by kernel_rfl) ?_
 intro b44 w44 e44 hb44 k44 z44
 have hsz45 := Keep.size k44
 replace hr := hr.keep k44 (fun f => f)
 replace hb1 := hb1.keep k44 (fun f => f)
 replace hb30 := hb30.keep k44 (fun f => f)
 replace hb32_37 := hb32_37.keep k44 (fun f => f)
 replace hA := SlT.keep0 hA k44
 replace hl := Led.keep hl k44 (fun _ _ f => f)
 replace hK0 := Keep.tr hK0 (Keep.ofNone k44)
 replace ho14 := Rfr.keep ho14 k44 (fun _ _ f => f)
 replace ho17 := VotT.keep ho17 k44 (fun _ _ f => f)
 have hb44lt := hb44.lt
 refine OI_set (m := 45) (kd := true) 57 (.tmp 14) (.tmp 43) 0 (.agg (Rfm.cells (endY s (getA rs ref) ref 6 now)).toArray) (Rfm.cells (endY s (getA rs ref) ref 6 now)) none (by kernel_rfl) (by kernel_rfl) (by kernel_rfl) hb44 (by kernel_rfl) rfl (Rfm.len _) (Nat.le_of_ble_eq_true (by kernel_rfl)) (Rfm.one _) ?_
 intro w46 hb44_49 hk47 hz48
 replace hb44_49 : Blk w46 b44 (Rfm.cells (endY s (getA rs ref) ref 6 now)) 57 := (Blk.eqL (Rfm.over _ _) hb44_49)
 have hsz50 := Keep.size hk47
 replace hr := hr.keep hk47 (by show ¬ (_ = _); omega)
 replace hb1 := hb1.keep hk47 (by show ¬ (_ = _); omega)
 replace hb30 := hb30.keep hk47 (by show ¬ (_ = _); omega)
 replace hb32_37 := hb32_37.keep hk47 (by show ¬ (_ = _); omega)
 replace hA := SlT.keep hA hk47 (fun q hq hs => by have hs : q = b44 := hs; have g0 := hAr q hq; have g1 := hAlt q hq; omega)
 replace hl := Led.keep hl hk47 (fun q hq hs => by have hs : q = b44 := hs; have g0 := hlr q hq; have g1 := hGlt q hq; omega)
 replace hK0 := Keep.fresh hK0 hk47 (by intro i hi hs; first | exact hs | exact Or.inl hs | exact Or.inr hs | (exfalso; have hs2 : i = b44 := hs; omega))
 replace ho14 := Rfr.keep ho14 hk47 (fun q hq hs => by have hs : q = b44 := hs; have g0 := own22 q hq; have g1 := lt21 q hq; omega)
 replace ho17 := VotT.keep ho17 hk47 (fun q hq hs => by have hs : q = b44 := hs; have g0 := own26 q hq; have g1 := lt25 q hq; omega)
 refine Os 9 [(0, pt r), (3, nt ref), (6, pt b1), (13, pt b32), (14, pt b44)] ?_
 refine Oer ?_
 refine Os 2 [(0, pt r), (3, nt ref), (13, pt b32), (14, pt b44), (16, .func (.func 59) #[] #[pt b32, pt b1])] ?_
 refine Oe ?_
 refine V_seq ?_
 refine Vr ?_
 refine Os 1 [(0, pt r), (3, nt ref), (13, pt b32), (14, pt b44), (16, .func (.func 59) #[] #[pt b32, pt b1]), (46, .pointer (some ⟨b44, 37, none⟩))] ?_
 refine Oc 4 (.tmp 46) 37 (.bool ((getA rs ref).put)) (some 47) hb44_49 rfl ?_
 refine Oe ?_
 refine V_ifb ((getA rs ref).put) (by kernel_rfl) (fun hc51 => ?_) (fun hc51 => ?_)
 ·
  refine V_region ?_
  refine Os 2 [(0, pt r), (3, nt ref), (13, pt b32), (14, pt b44), (16, .func (.func 59) #[] #[pt b32, pt b1]), (48, .func (.func 59) #[] #[pt b32, pt b1]), (49, .pointer (some ⟨b44, 36, none⟩))] ?_
  refine Oc 3 (.tmp 49) 36 (nt ((getA rs ref).by_)) (some 50) hb44_49 rfl ?_
  refine Ok { callee := (Callee.value (Operand.tmp 48)), args := #[(Operand.tmp 50), (Operand.const (Value.int IntKind.i64 10))], argTypes := #[3, 3] } 59 #[nt ((getA rs ref).by_), nt 10, pt b32, pt b1] (some 51) (kill1_spec (some ⟨b30, 0, none⟩) 1 [((Evt.mk 1 ref 6))] b32 b1 G l xs cs ((getA rs ref).by_) 10 _ hb32_37 hb1 (slt_blk hb30 Evt.len rfl) hl (fun q h => by have h1 := inA_some h; omega) (fun q h => by have h1 := hlr q h; have h2 := hGlt q h; omega) (fun q h1 h2 => by have h3 := inA_some h1; have h4 := hGlt q h2; omega) (by simp) (by omega)) ?_
  rintro _ w52 ⟨A54, cap54, rfl, hbo54, hA54, fr54, ⟨G54, ho54, hfr54, hdA54⟩, hk53⟩
  refine ⟨_, rfl, ?_⟩
  have hsz55 := Keep.size hk53
  replace hr := hr.keep hk53 (fun hs => by rcases hs with hs | hs | hs; (have u0 := hlr _ hs; have u1 := hGlt _ hs; omega); (have u0 : _ = b32 := hs; omega); (have u0 := inA_some hs; omega))
  replace hb1 := hb1.keep hk53 (fun hs => by rcases hs with hs | hs | hs; (have u0 := hlr _ hs; have u1 := hGlt _ hs; omega); (have u0 : _ = b32 := hs; omega); (have u0 := inA_some hs; omega))
  replace hb44_49 := hb44_49.keep hk53 (fun hs => by rcases hs with hs | hs | hs; (have u0 := hlr _ hs; have u1 := hGlt _ hs; omega); (have u0 : _ = b32 := hs; omega); (have u0 := inA_some hs; omega))
  replace hA := SlT.keep hA hk53 (fun q hq hs => by rcases hs with hs | hs | hs; exact (fun q h1 h2 => hHG q (hAo q h1).1 h2) q hq hs; (have g0 := hAr q hq; have g1 := hAlt q hq; have u0 : q = b32 := hs; omega); (have g0 := hAr q hq; have g1 := hAlt q hq; have u0 := inA_some hs; omega))
  replace hK0 := Keep.fresh hK0 hk53 (fun i hi hs => by rcases hs with hs | hs | hs; (rcases hGr i hs with h | h; exact .inr <| .inr <| h; (exfalso; omega)); (exfalso; have hs : i = b32 := hs; omega); (exfalso; have hs := inA_some hs; omega))
  replace ho14 := Rfr.keep ho14 hk53 (fun q hq hs => by rcases hs with hs | hs | hs; exact dis24 q hq hs; (have g0 := own22 q hq; have g1 := lt21 q hq; have u0 : q = b32 := hs; omega); (have g0 := own22 q hq; have g1 := lt21 q hq; have u0 := inA_some hs; omega))
  replace ho17 := VotT.keep ho17 hk53 (fun q hq hs => by rcases hs with hs | hs | hs; exact dis29 q hq hs; (have g0 := own26 q hq; have g1 := lt25 q hq; have u0 : q = b32 := hs; omega); (have g0 := own26 q hq; have g1 := lt25 q hq; have u0 := inA_some hs; omega))
  have hb32lt := hbo54.lt
  replace hbo54 : Blk w52 b32 [.slice A54 ([((Evt.mk 1 ref 6))] ++ [Evt.mk 6 ((getA rs ref).by_) (tkN xs ((getA rs ref).by_) 10)]).length cap54] 50 := by rw [List.length_append]; exact hbo54
  have own57 : ∀ q, G54 q → q ≠ r ∧ q ≠ r ∧ q ≠ b1 ∧ q ≠ b44 ∧ q ≠ b32 := fun q hq => by rcases hfr54 q hq with h | h; (have h1 := hlr q h; have h2 := hGlt q h; omega); omega
  have lt56 := Led.lt ho54
  have rel58 : ∀ q, G54 q → G q ∨ w.heap.size ≤ q := fun q hq => by rcases hfr54 q hq with h | h; exact hGr q h; exact .inr (by omega)
  have dis59 : ∀ q, G54 q → ¬ inA A q := fun q h1 h2 => by rcases hfr54 q h1 with h | h; exact (fun q h1 h2 => hHG q (hAo q h2).1 h1) q h h2; (have h4 := hAlt q h2; omega)
  have dis60 : ∀ q, G54 q → ¬ F13 q := fun q h1 h2 => by rcases hfr54 q h1 with h | h; exact (fun q h1 h2 => dis24 q h2 h1) q h h2; (have h4 := lt21 q h2; omega)
  have dis61 : ∀ q, G54 q → ¬ F16 q := fun q h1 h2 => by rcases hfr54 q h1 with h | h; exact (fun q h1 h2 => dis29 q h2 h1) q h h2; (have h4 := lt25 q h2; omega)
  have ltA54 := SlT.lt hA54
  have owA54 : ∀ q, inA A54 q → w.heap.size ≤ q ∧ q ≠ r ∧ q ≠ b1 ∧ q ≠ b44 ∧ q ≠ b32 := fun q hq => by rcases fr54 q hq with h | h; (have h8 := inA_some h; omega); omega
  have dis62 : ∀ q, inA A54 q → ¬ F13 q := fun q h1 h2 => by rcases fr54 q h1 with h | h; (have h3 := inA_some h; have h4 := lt21 q h2; have h5 := own22 q h2; omega); (have h4 := lt21 q h2; omega)
  have dis63 : ∀ q, inA A54 q → ¬ F16 q := fun q h1 h2 => by rcases fr54 q h1 with h | h; (have h3 := inA_some h; have h4 := lt25 q h2; have h5 := own26 q h2; omega); (have h4 := lt25 q h2; omega)
  have dis64 := hdA54
  refine Oe ?_
  refine V_seq ?_
  refine Vr ?_
  refine Os 1 [(0, pt r), (3, nt ref), (13, pt b32), (14, pt b44), (16, .func (.func 59) #[] #[pt b32, pt b1]), (52, .pointer (some ⟨b44, 38, none⟩))] ?_
  refine Oc 3 (.tmp 52) 38 (nt ((getA rs ref).backer)) (some 53) hb44_49 rfl ?_
  refine Os 3 [(0, pt r), (3, nt ref), (13, pt b32), (14, pt b44), (16, .func (.func 59) #[] #[pt b32, pt b1]), (54, .bool (!(decide ((getA rs ref).backer = -1))))] ?_
  refine Oe ?_
  refine V_not ((getA rs ref).backer = -1) (by kernel_rfl) (fun hc65 => ?_) (fun hc65 => ?_)
  ·
   refine V_draws (acts [12]) none_ [[0, 1, 2, 3, 4, 5, 6, 7, 8, 9, 10, 11, 12]] (by kernel_rfl) (by repeat first | exact (by first | exact sure_body (by rintro _ _ ⟨_, _, h, _⟩; exact ⟨_, h⟩) | exact sure_body (by rintro _ _ ⟨_, _, h, _⟩; exact ⟨_, h⟩)) | refine sure_then ?_ | refine sure_block ?_ | refine sure_join ?_) (by kernel_rfl) ?_
   intro w67 hk66 he68 L hL69
   have hsz70 := Keep.size hk66
   replace hr := hr.keep hk66 (fun f => f)
   replace hb1 := hb1.keep hk66 (fun f => f)
   replace hb44_49 := hb44_49.keep hk66 (fun f => f)
   replace hbo54 := hbo54.keep hk66 (fun f => f)
   replace hA := SlT.keep0 hA hk66
   replace hA54 := SlT.keep0 hA54 hk66
   replace hK0 := Keep.tr hK0 (Keep.ofNone hk66)
   replace ho14 := Rfr.keep ho14 hk66 (fun _ _ f => f)
   replace ho17 := VotT.keep ho17 hk66 (fun _ _ f => f)
   replace ho54 := Led.keep ho54 hk66 (fun _ _ f => f)
   have qhr := hr
   have qhb1 := hb1
   have qhb44_49 := hb44_49
   have qhbo54 := hbo54
   have K71 : Keep none_ w67 w67 := Keep.refl _ _
   obtain rfl := List.mem_singleton.1 hL69
   refine Gs [2, 3, 4, 5, 6, 7, 8, 9, 10, 11, 12] [(0, pt r), (3, nt ref), (13, pt b32), (14, pt b44), (55, .func (.func 59) #[] #[pt b32, pt b1]), (56, .pointer (some ⟨b44, 38, none⟩))] ?_
   refine Gc0 3 (.tmp 56) 38 (nt ((getA rs ref).backer)) (some 57) qhb44_49 rfl ?_
   refine Gs [6, 7, 8, 9, 10, 11, 12] [(0, pt r), (3, nt ref), (13, pt b32), (14, pt b44), (55, .func (.func 59) #[] #[pt b32, pt b1]), (57, nt ((getA rs ref).backer)), (60, pt r)] ?_
   refine Gc0 29 (.tmp 60) 0 (.slice A ts.length cap) (some 61) qhr rfl ?_
   refine Gs [8, 9, 10, 11, 12] [(0, pt r), (3, nt ref), (13, pt b32), (14, pt b44), (55, .func (.func 59) #[] #[pt b32, pt b1]), (57, nt ((getA rs ref).backer)), (61, .slice A ts.length cap), (62, .pointer (some ⟨b44, 1, none⟩))] ?_
   refine Gc0 3 (.tmp 62) 1 (nt ((getA rs ref).track)) (some 63) qhb44_49 rfl ?_
   obtain ⟨b72, o72, L72, T72, rfl, hat72⟩ := SlT.open_ hA (by first | omega | (simp only [List.length_map]; omega) | (simp; done) | (simp; omega))
   have hb72lt := hat72.blk.lt
   have hob73 := hAr b72 ⟨_, rfl, rfl⟩
   have hob74 := hAlt b72 ⟨_, rfl, rfl⟩
   have hne75 : ∀ q, F16 q → q ≠ b72 := fun q hq hs => dis28 q hq ⟨_, rfl, hs⟩
   have own76 := fun q hq => And.intro (own26 q hq) (hne75 q hq)
   have hne77 : ∀ q, G54 q → q ≠ b72 := fun q hq hs => dis59 q hq ⟨_, rfl, hs⟩
   have own78 := fun q hq => And.intro (own57 q hq) (hne77 q hq)
   refine Gp_ [(0, pt r), (3, nt ref), (13, pt b32), (14, pt b44), (55, .func (.func 59) #[] #[pt b32, pt b1]), (57, nt ((getA rs ref).backer)), (61, .slice (some ⟨b72, o72, none⟩) ts.length cap), (63, nt ((getA rs ref).track))] ?_
   refine GI_eq [(0, pt r), (3, nt ref), (13, pt b32), (14, pt b44), (55, .func (.func 59) #[] #[pt b32, pt b1]), (57, nt ((getA rs ref).backer)), (61, .slice (some ⟨b72, o72, none⟩) ts.length cap), (63, nt ((jt : Nat) : Int))] (by rw [hjt]) ?_
   refine GI_pure (some 64) (.indexAddr 29 (.tmp 61) (.tmp 63)) (by kernel_rfl) (by kernel_rfl) (pure_idxN (b := b72) (o := o72) (len := ts.length) (cap := cap) (kd := .i64) (j := jt) (E := 27) (sz := 18) (by_ := 144) (by kernel_rfl) (by kernel_rfl) (by kernel_rfl) (by omega)) ?_
   refine Gs [11, 12] [(0, pt r), (3, nt ref), (13, pt b32), (14, pt b44), (55, .func (.func 59) #[] #[pt b32, pt b1]), (57, nt ((getA rs ref).backer)), (65, .pointer (some ⟨b72, o72 + jt * 18 + 1, none⟩))] ?_
   refine Gc0 3 (.tmp 65) (o72 + jt * 18 + 1) (nt ((trkA ts (getA rs ref).track).deposit)) (some 66) hat72.blk (At.cell hat72 (es_at htk) rfl) ?_
   refine GI_final 12 (by kernel_rfl) (by kernel_rfl) ?_
   refine Ok { callee := (Callee.value (Operand.tmp 55)), args := #[(Operand.tmp 57), (Operand.tmp 66)], argTypes := #[3, 3] } 59 #[nt ((getA rs ref).backer), nt ((trkA ts (getA rs ref).track).deposit), pt b32, pt b1] (some 67) (kill1_spec A54 cap54 ([((Evt.mk 1 ref 6))] ++ [Evt.mk 6 ((getA rs ref).by_) (tkN xs ((getA rs ref).by_) 10)]) b32 b1 G54 l (slX xs ((getA rs ref).by_) 10) cs ((getA rs ref).backer) ((trkA ts (getA rs ref).track).deposit) _ hbo54 hb1 hA54 ho54 (fun q h => by have h1 := owA54 q h; have h2 := ltA54 q h; omega) (fun q h => by have h1 := own78 q h; have h2 := lt56 q h; omega) (fun q h1 h2 => (fun q h1 h2 => dis64 q h2 h1) q h2 h1) (by simp) (by omega)) ?_
   rintro _ w79 ⟨A81, cap81, rfl, hbo81, hA81, fr81, ⟨G81, ho81, hfr81, hdA81⟩, hk80⟩
   refine ⟨_, rfl, ?_⟩
   have hsz82 := Keep.size hk80
   replace hr := hr.keep hk80 (fun hs => by rcases hs with hs | hs | hs; (have u0 := own78 _ hs; have u1 := lt56 _ hs; omega); (have u0 : _ = b32 := hs; omega); (have u0 := owA54 _ hs; have u1 := ltA54 _ hs; omega))
   replace hb1 := hb1.keep hk80 (fun hs => by rcases hs with hs | hs | hs; (have u0 := own78 _ hs; have u1 := lt56 _ hs; omega); (have u0 : _ = b32 := hs; omega); (have u0 := owA54 _ hs; have u1 := ltA54 _ hs; omega))
   replace hb44_49 := hb44_49.keep hk80 (fun hs => by rcases hs with hs | hs | hs; (have u0 := own78 _ hs; have u1 := lt56 _ hs; omega); (have u0 : _ = b32 := hs; omega); (have u0 := owA54 _ hs; have u1 := ltA54 _ hs; omega))
   replace hat72 := hat72.keep hk80 (fun hs => by rcases hs with hs | hs | hs; (have u0 := own78 _ hs; have u1 := lt56 _ hs; omega); (have u0 : _ = b32 := hs; omega); (have u0 := owA54 _ hs; have u1 := ltA54 _ hs; omega))
   replace hK0 := Keep.fresh hK0 hk80 (fun i hi hs => by rcases hs with hs | hs | hs; (rcases rel58 i hs with h | h; exact .inr <| .inr <| h; (exfalso; omega)); (exfalso; have hs : i = b32 := hs; omega); (exfalso; have g0 := owA54 i hs; have g1 := ltA54 i hs; omega))
   replace ho14 := Rfr.keep ho14 hk80 (fun q hq hs => by rcases hs with hs | hs | hs; exact (fun q h1 h2 => dis60 q h2 h1) q hq hs; (have g0 := own22 q hq; have g1 := lt21 q hq; have u0 : q = b32 := hs; omega); exact (fun q h1 h2 => dis62 q h2 h1) q hq hs)
   replace ho17 := VotT.keep ho17 hk80 (fun q hq hs => by rcases hs with hs | hs | hs; exact (fun q h1 h2 => dis61 q h2 h1) q hq hs; (have g0 := own76 q hq; have g1 := lt25 q hq; have u0 : q = b32 := hs; omega); exact (fun q h1 h2 => dis63 q h2 h1) q hq hs)
   have hb32lt := hbo81.lt
   replace hbo81 : Blk w79 b32 [.slice A81 (([((Evt.mk 1 ref 6))] ++ [Evt.mk 6 ((getA rs ref).by_) (tkN xs ((getA rs ref).by_) 10)]) ++ [Evt.mk 6 ((getA rs ref).backer) (tkN (slX xs ((getA rs ref).by_) 10) ((getA rs ref).backer) ((trkA ts (getA rs ref).track).deposit))]).length cap81] 50 := by rw [List.length_append]; exact hbo81
   have own84 : ∀ q, G81 q → q ≠ r ∧ q ≠ r ∧ q ≠ b1 ∧ q ≠ b44 ∧ q ≠ b32 := fun q hq => by rcases hfr81 q hq with h | h; (have h1 := own78 q h; have h2 := lt56 q h; omega); omega
   have lt83 := Led.lt ho81
   have rel85 : ∀ q, G81 q → G q ∨ w.heap.size ≤ q := fun q hq => by rcases hfr81 q hq with h | h; exact rel58 q h; exact .inr (by omega)
   have dis86 : ∀ q, G81 q → ¬ F13 q := fun q h1 h2 => by rcases hfr81 q h1 with h | h; exact dis60 q h h2; (have h4 := lt21 q h2; omega)
   have dis87 : ∀ q, G81 q → ¬ F16 q := fun q h1 h2 => by rcases hfr81 q h1 with h | h; exact dis61 q h h2; (have h4 := lt25 q h2; omega)
   have ltA81 := SlT.lt hA81
   have owA81 : ∀ q, inA A81 q → w.heap.size ≤ q ∧ q ≠ r ∧ q ≠ b1 ∧ q ≠ b44 ∧ q ≠ b32 := fun q hq => by rcases fr81 q hq with h | h; (have h8 := owA54 q h; have h9 := ltA54 q h; omega); omega
   have dis88 : ∀ q, inA A81 q → ¬ F13 q := fun q h1 h2 => by rcases fr81 q h1 with h | h; exact (fun q h1 h2 => dis62 q h2 h1) q h2 h; (have h4 := lt21 q h2; omega)
   have dis89 : ∀ q, inA A81 q → ¬ F16 q := fun q h1 h2 => by rcases fr81 q h1 with h | h; exact (fun q h1 h2 => dis63 q h2 h1) q h2 h; (have h4 := lt25 q h2; omega)
   have dis90 := hdA81
   refine Oer ?_
   refine Os 1 [(0, pt r), (3, nt ref), (13, pt b32), (14, pt b44), (68, .pointer (some ⟨b44, 37, none⟩))] ?_
   refine OI_set (m := 1) (kd := false) 4 (.tmp 68) (.const (Value.bool false)) 37 (.bool false) [.bool false] none (by kernel_rfl) (by kernel_rfl) (by kernel_rfl) hb44_49 (by kernel_rfl) (by kernel_rfl) (by kernel_rfl) (Nat.le_of_ble_eq_true (by kernel_rfl)) (by simp [Value.oneCell']) ?_
   intro w91 hb44_94 hk92 hz93
   replace hb44_94 : Blk w91 b44 (Rfm.cells { (endY s (getA rs ref) ref 6 now) with put := false }) 57 := (Blk.eqL (by kernel_rfl) hb44_94)
   have hsz95 := Keep.size hk92
   replace hr := hr.keep hk92 (by show ¬ (_ = _); omega)
   replace hb1 := hb1.keep hk92 (by show ¬ (_ = _); omega)
   replace hbo81 := hbo81.keep hk92 (by show ¬ (_ = _); omega)
   replace hat72 := hat72.keep hk92 (by show ¬ (_ = _); omega)
   replace hA81 := SlT.keep hA81 hk92 (fun q hq hs => by have hs : q = b44 := hs; have g0 := owA81 q hq; have g1 := ltA81 q hq; omega)
   replace hK0 := Keep.fresh hK0 hk92 (by intro i hi hs; first | exact hs | exact Or.inl hs | exact Or.inr hs | (exfalso; have hs2 : i = b44 := hs; omega))
   replace ho14 := Rfr.keep ho14 hk92 (fun q hq hs => by have hs : q = b44 := hs; have g0 := own22 q hq; have g1 := lt21 q hq; omega)
   replace ho17 := VotT.keep ho17 hk92 (fun q hq hs => by have hs : q = b44 := hs; have g0 := own76 q hq; have g1 := lt25 q hq; omega)
   replace ho81 := Led.keep ho81 hk92 (fun q hq hs => by have hs : q = b44 := hs; have g0 := own84 q hq; have g1 := lt83 q hq; omega)
   refine Os 3 [(0, pt r), (3, nt ref), (13, pt b32), (14, pt b44), (69, .pointer (some ⟨b44, 38, none⟩))] ?_
   refine OI_set (m := 1) (kd := false) 3 (.tmp 69) (.const (Value.int IntKind.i64 (-1))) 38 (nt (-1)) [nt (-1)] none (by kernel_rfl) (by kernel_rfl) (by kernel_rfl) hb44_94 (by kernel_rfl) (by kernel_rfl) (by kernel_rfl) (Nat.le_of_ble_eq_true (by kernel_rfl)) (by simp [Value.oneCell']) ?_
   intro w96 hb44_99 hk97 hz98
   replace hb44_99 : Blk w96 b44 (Rfm.cells { (endY s (getA rs ref) ref 6 now) with put := false, backer := -1 }) 57 := (Blk.eqL (by kernel_rfl) hb44_99)
   have hsz100 := Keep.size hk97
   replace hr := hr.keep hk97 (by show ¬ (_ = _); omega)
   replace hb1 := hb1.keep hk97 (by show ¬ (_ = _); omega)
   replace hbo81 := hbo81.keep hk97 (by show ¬ (_ = _); omega)
   replace hat72 := hat72.keep hk97 (by show ¬ (_ = _); omega)
   replace hA81 := SlT.keep hA81 hk97 (fun q hq hs => by have hs : q = b44 := hs; have g0 := owA81 q hq; have g1 := ltA81 q hq; omega)
   replace hK0 := Keep.fresh hK0 hk97 (by intro i hi hs; first | exact hs | exact Or.inl hs | exact Or.inr hs | (exfalso; have hs2 : i = b44 := hs; omega))
   replace ho14 := Rfr.keep ho14 hk97 (fun q hq hs => by have hs : q = b44 := hs; have g0 := own22 q hq; have g1 := lt21 q hq; omega)
   replace ho17 := VotT.keep ho17 hk97 (fun q hq hs => by have hs : q = b44 := hs; have g0 := own76 q hq; have g1 := lt25 q hq; omega)
   replace ho81 := Led.keep ho81 hk97 (fun q hq hs => by have hs : q = b44 := hs; have g0 := own84 q hq; have g1 := lt83 q hq; omega)
   refine Oe ?_
   refine V_seq ?_
   refine V_draws (acts [6]) none_ [[0, 1, 2, 3, 4, 5, 6]] (by kernel_rfl) (by repeat first | exact (by first | exact sure_body (by rintro _ _ ⟨_, _, h, _⟩; exact ⟨_, h⟩) | exact sure_body (by rintro _ _ ⟨_, _, h, _⟩; exact ⟨_, h⟩)) | refine sure_then ?_ | refine sure_block ?_ | refine sure_join ?_) (by kernel_rfl) ?_
   intro w102 hk101 he103 L hL104
   have hsz105 := Keep.size hk101
   replace hr := hr.keep hk101 (fun f => f)
   replace hb44_99 := hb44_99.keep hk101 (fun f => f)
   replace hbo81 := hbo81.keep hk101 (fun f => f)
   replace hat72 := hat72.keep hk101 (fun f => f)
   replace hA81 := SlT.keep0 hA81 hk101
   replace hK0 := Keep.tr hK0 (Keep.ofNone hk101)
   replace ho14 := Rfr.keep ho14 hk101 (fun _ _ f => f)
   replace ho17 := VotT.keep ho17 hk101 (fun _ _ f => f)
   replace ho81 := Led.keep ho81 hk101 (fun _ _ f => f)
   have qhr := hr
   have qhb44_99 := hb44_99
   have qhbo81 := hbo81
   have qhat72 := hat72
   have K106 : Keep none_ w102 w102 := Keep.refl _ _
   obtain rfl := List.mem_singleton.1 hL104
   refine Gs [3, 4, 5, 6] [(3, nt ref), (13, pt b32), (14, pt b44), (72, .pointer (some ⟨r, 1, none⟩))] ?_
   refine Gc0 95 (.tmp 72) 1 (pt g) (some 73) qhr rfl ?_
   refine Gs [5, 6] [(13, pt b32), (14, pt b44), (73, pt g), (74, nt ref)] ?_
   refine Ga 57 (.tmp 14) 0 (Rfm.cells { (endY s (getA rs ref) ref 6 now) with put := false, backer := -1 }) (some 75) 45 qhb44_99 (fun f => f) (take_all (Rfm.len _)) (Rfm.len _) ?_
   refine GI_final 6 (by kernel_rfl) (by kernel_rfl) ?_
   refine Ok { callee := (Callee.value (Operand.func 45)), args := #[(Operand.tmp 73), (Operand.const (Value.int IntKind.i64 0)), (Operand.tmp 74), (Operand.tmp 75)], argTypes := #[95, 3, 3, 57] } 45 #[pt g, nt 0, nt ref, .agg (Rfm.cells { (endY s (getA rs ref) ref 6 now) with put := false, backer := -1 }).toArray] (some 76) (rset_spec F13 r g ts (endR s rs ref 6 now) ref ({ (endY s (getA rs ref) ref 6 now) with put := false, backer := -1 }) _ ho14 (by rw [hge3]; exact href) htr) ?_
   rintro _ w111 ⟨rfl, ⟨H113, hR114, hfr115⟩, hk112⟩
   refine ⟨_, rfl, ?_⟩
   have hsz116 := Keep.size hk112
   replace hr := hr.keep hk112 (fun hs => by have h1 := hgo _ hs; have h2 := hgl _ hs; omega)
   replace hb44_99 := hb44_99.keep hk112 (fun hs => by have h1 := hgo _ hs; have h2 := hgl _ hs; omega)
   replace hbo81 := hbo81.keep hk112 (fun hs => by have h1 := hgo _ hs; have h2 := hgl _ hs; omega)
   replace hat72 := hat72.keep hk112 (fun hs => by have h1 := hgo _ hs; have h2 := hgl _ hs; omega)
   replace hA81 := SlT.keep hA81 hk112 (fun q hq hs => (fun q h1 h2 => (fun q h1 h2 => dis88 q h2 h1) q (by rw [show q = g from h1]; exact (Rfr.atg ho14)) h2) q hs hq)
   replace hK0 := Keep.fresh hK0 hk112 (by intro i hi hs; first | exact hs | (exfalso; have h1 := hgo i hs; have h2 := hgl i hs; omega) | (have h1 := hgo i hs; have h2 := hgl i hs; show _ ∨ _; omega))
   replace ho17 := VotT.keep ho17 hk112 (fun q hq hs => (fun q h1 h2 => hdis19 q (by rw [show q = g from h1]; exact (Rfr.atg ho14)) h2) q hs hq)
   replace ho81 := Led.keep ho81 hk112 (fun q hq hs => (fun q h1 h2 => (fun q h1 h2 => dis86 q h2 h1) q (by rw [show q = g from h1]; exact (Rfr.atg ho14)) h2) q hs hq)
   have own118 : ∀ q, H113 q → 0 ≤ q ∧ q ≠ b44 ∧ q ≠ b32 := fun q hq => by rcases hfr115 q hq with h | h; (have h1 := own22 q h; have h2 := lt21 q h; omega); omega
   have lt117 := Rfr.lt hR114
   have rel119 : ∀ q, H113 q → H q ∨ w.heap.size ≤ q := fun q hq => by rcases hfr115 q hq with h | h; exact rel23 q h; exact .inr (by omega)
   have dis120 : ∀ q, H113 q → ¬ inA A81 q := fun q h1 h2 => by rcases hfr115 q h1 with h | h; exact (fun q h1 h2 => dis88 q h2 h1) q h h2; (have h4 := ltA81 q h2; omega)
   have dis121 : ∀ q, H113 q → ¬ F16 q := fun q h1 h2 => by rcases hfr115 q h1 with h | h; exact hdis19 q h h2; (have h4 := lt25 q h2; omega)
   have dis122 : ∀ q, H113 q → ¬ G81 q := fun q h1 h2 => by rcases hfr115 q h1 with h | h; exact (fun q h1 h2 => dis86 q h2 h1) q h h2; (have h4 := lt83 q h2; omega)
   refine Oer ?_
   refine Oc 50 (.tmp 13) 0 (.slice A81 ((([((Evt.mk 1 ref 6))] ++ [Evt.mk 6 ((getA rs ref).by_) (tkN xs ((getA rs ref).by_) 10)]) ++ [Evt.mk 6 ((getA rs ref).backer) (tkN (slX xs ((getA rs ref).by_) 10) ((getA rs ref).backer) ((trkA ts (getA rs ref).track).deposit))]).length) cap81) (some 77) hbo81 rfl ?_
   refine Os 3 [(10, .slice A81 ((([((Evt.mk 1 ref 6))] ++ [Evt.mk 6 ((getA rs ref).by_) (tkN xs ((getA rs ref).by_) 10)]) ++ [Evt.mk 6 ((getA rs ref).backer) (tkN (slX xs ((getA rs ref).by_) 10) ((getA rs ref).backer) ((trkA ts (getA rs ref).track).deposit))]).length) cap81), (11, nt 0)] ?_
   refine Oe ?_
   refine V_ret ?_
   obtain ⟨h1123, h2123, h3123, h4123⟩ := kil_go (xs := xs) (s := s) (ts := ts) (now := now) hong
   have hp123 : (getA rs ref).put = true := hc51
   have hb123 : (getA rs ref).backer ≠ -1 := hc65
   have h5123 : kilX xs ts rs ref = (slX (slX xs ((getA rs ref).by_) 10) ((getA rs ref).backer) ((trkA ts (getA rs ref).track).deposit)) := by rw [h1123]; unfold kilX2 kilX1; rw [hp123, if_pos hb123]; rfl
   have h6123 : kilR s rs ref now = ((endR s rs ref 6 now).set ref.toNat ({ (endY s (getA rs ref) ref 6 now) with put := false, backer := -1 })) := by rw [h3123]; unfold endR; rw [List.set_set]
   have h7123 : kilL xs ts rs ref = (([((Evt.mk 1 ref 6))] ++ [Evt.mk 6 ((getA rs ref).by_) (tkN xs ((getA rs ref).by_) 10)]) ++ [Evt.mk 6 ((getA rs ref).backer) (tkN (slX xs ((getA rs ref).by_) 10) ((getA rs ref).backer) ((trkA ts (getA rs ref).track).deposit))]) := by rw [h4123]; unfold kilL2 kilL1 kilX1; rw [hp123, if_pos hb123]; rfl
   exact X_return (.tuple #[.slice A81 ((([((Evt.mk 1 ref 6))] ++ [Evt.mk 6 ((getA rs ref).by_) (tkN xs ((getA rs ref).by_) 10)]) ++ [Evt.mk 6 ((getA rs ref).backer) (tkN (slX xs ((getA rs ref).by_) 10) ((getA rs ref).backer) ((trkA ts (getA rs ref).track).deposit))]).length) cap81, nt 0]) rfl ⟨A81, cap81, by rw [h7123, hong], by rw [h7123]; exact hA81, (fun q h => (owA81 q h).1), ⟨H113, F16, G81, (by rw [h6123]; exact hR114), (by rw [h2123]; exact ho17), (by rw [h5123]; exact ho81), rel119, rel27, rel85, dis121, dis122, (fun q h1 h2 => dis87 q h2 h1), ((fun q h1 h2 => dis120 q h2 h1)), (dis89), (dis90)⟩, hK0⟩
  refine V_skip ?_
  refine X_then ?_
  refine Vr ?_
  refine Os 1 [(0, pt r), (3, nt ref), (13, pt b32), (14, pt b44), (68, .pointer (some ⟨b44, 37, none⟩))] ?_
  refine OI_set (m := 1) (kd := false) 4 (.tmp 68) (.const (Value.bool false)) 37 (.bool false) [.bool false] none (by kernel_rfl) (by kernel_rfl) (by kernel_rfl) hb44_49 (by kernel_rfl) (by kernel_rfl) (by kernel_rfl) (Nat.le_of_ble_eq_true (by kernel_rfl)) (by simp [Value.oneCell']) ?_
  intro w124 hb44_127 hk125 hz126
  replace hb44_127 : Blk w124 b44 (Rfm.cells { (endY s (getA rs ref) ref 6 now) with put := false }) 57 := (Blk.eqL (by kernel_rfl) hb44_127)
  have hsz128 := Keep.size hk125
  replace hr := hr.keep hk125 (by show ¬ (_ = _); omega)
  replace hb1 := hb1.keep hk125 (by show ¬ (_ = _); omega)
  replace hbo54 := hbo54.keep hk125 (by show ¬ (_ = _); omega)
  replace hA := SlT.keep hA hk125 (fun q hq hs => by have hs : q = b44 := hs; have g0 := hAr q hq; have g1 := hAlt q hq; omega)
  replace hA54 := SlT.keep hA54 hk125 (fun q hq hs => by have hs : q = b44 := hs; have g0 := owA54 q hq; have g1 := ltA54 q hq; omega)
  replace hK0 := Keep.fresh hK0 hk125 (by intro i hi hs; first | exact hs | exact Or.inl hs | exact Or.inr hs | (exfalso; have hs2 : i = b44 := hs; omega))
  replace ho14 := Rfr.keep ho14 hk125 (fun q hq hs => by have hs : q = b44 := hs; have g0 := own22 q hq; have g1 := lt21 q hq; omega)
  replace ho17 := VotT.keep ho17 hk125 (fun q hq hs => by have hs : q = b44 := hs; have g0 := own26 q hq; have g1 := lt25 q hq; omega)
  replace ho54 := Led.keep ho54 hk125 (fun q hq hs => by have hs : q = b44 := hs; have g0 := own57 q hq; have g1 := lt56 q hq; omega)
  refine Os 3 [(0, pt r), (3, nt ref), (13, pt b32), (14, pt b44), (69, .pointer (some ⟨b44, 38, none⟩))] ?_
  refine OI_set (m := 1) (kd := false) 3 (.tmp 69) (.const (Value.int IntKind.i64 (-1))) 38 (nt (-1)) [nt (-1)] none (by kernel_rfl) (by kernel_rfl) (by kernel_rfl) hb44_127 (by kernel_rfl) (by kernel_rfl) (by kernel_rfl) (Nat.le_of_ble_eq_true (by kernel_rfl)) (by simp [Value.oneCell']) ?_
  intro w129 hb44_132 hk130 hz131
  replace hb44_132 : Blk w129 b44 (Rfm.cells { (endY s (getA rs ref) ref 6 now) with put := false, backer := -1 }) 57 := (Blk.eqL (by kernel_rfl) hb44_132)
  have hsz133 := Keep.size hk130
  replace hr := hr.keep hk130 (by show ¬ (_ = _); omega)
  replace hb1 := hb1.keep hk130 (by show ¬ (_ = _); omega)
  replace hbo54 := hbo54.keep hk130 (by show ¬ (_ = _); omega)
  replace hA := SlT.keep hA hk130 (fun q hq hs => by have hs : q = b44 := hs; have g0 := hAr q hq; have g1 := hAlt q hq; omega)
  replace hA54 := SlT.keep hA54 hk130 (fun q hq hs => by have hs : q = b44 := hs; have g0 := owA54 q hq; have g1 := ltA54 q hq; omega)
  replace hK0 := Keep.fresh hK0 hk130 (by intro i hi hs; first | exact hs | exact Or.inl hs | exact Or.inr hs | (exfalso; have hs2 : i = b44 := hs; omega))
  replace ho14 := Rfr.keep ho14 hk130 (fun q hq hs => by have hs : q = b44 := hs; have g0 := own22 q hq; have g1 := lt21 q hq; omega)
  replace ho17 := VotT.keep ho17 hk130 (fun q hq hs => by have hs : q = b44 := hs; have g0 := own26 q hq; have g1 := lt25 q hq; omega)
  replace ho54 := Led.keep ho54 hk130 (fun q hq hs => by have hs : q = b44 := hs; have g0 := own57 q hq; have g1 := lt56 q hq; omega)
  refine Oe ?_
  refine V_seq ?_
  refine V_draws (acts [6]) none_ [[0, 1, 2, 3, 4, 5, 6]] (by kernel_rfl) (by repeat first | exact (by first | exact sure_body (by rintro _ _ ⟨_, _, h, _⟩; exact ⟨_, h⟩) | exact sure_body (by rintro _ _ ⟨_, _, h, _⟩; exact ⟨_, h⟩)) | refine sure_then ?_ | refine sure_block ?_ | refine sure_join ?_) (by kernel_rfl) ?_
  intro w135 hk134 he136 L hL137
  have hsz138 := Keep.size hk134
  replace hr := hr.keep hk134 (fun f => f)
  replace hb44_132 := hb44_132.keep hk134 (fun f => f)
  replace hbo54 := hbo54.keep hk134 (fun f => f)
  replace hA := SlT.keep0 hA hk134
  replace hA54 := SlT.keep0 hA54 hk134
  replace hK0 := Keep.tr hK0 (Keep.ofNone hk134)
  replace ho14 := Rfr.keep ho14 hk134 (fun _ _ f => f)
  replace ho17 := VotT.keep ho17 hk134 (fun _ _ f => f)
  replace ho54 := Led.keep ho54 hk134 (fun _ _ f => f)
  have qhr := hr
  have qhb44_132 := hb44_132
  have qhbo54 := hbo54
  have K139 : Keep none_ w135 w135 := Keep.refl _ _
  obtain rfl := List.mem_singleton.1 hL137
  refine Gs [3, 4, 5, 6] [(3, nt ref), (13, pt b32), (14, pt b44), (72, .pointer (some ⟨r, 1, none⟩))] ?_
  refine Gc0 95 (.tmp 72) 1 (pt g) (some 73) qhr rfl ?_
  refine Gs [5, 6] [(13, pt b32), (14, pt b44), (73, pt g), (74, nt ref)] ?_
  refine Ga 57 (.tmp 14) 0 (Rfm.cells { (endY s (getA rs ref) ref 6 now) with put := false, backer := -1 }) (some 75) 45 qhb44_132 (fun f => f) (take_all (Rfm.len _)) (Rfm.len _) ?_
  refine GI_final 6 (by kernel_rfl) (by kernel_rfl) ?_
  refine Ok { callee := (Callee.value (Operand.func 45)), args := #[(Operand.tmp 73), (Operand.const (Value.int IntKind.i64 0)), (Operand.tmp 74), (Operand.tmp 75)], argTypes := #[95, 3, 3, 57] } 45 #[pt g, nt 0, nt ref, .agg (Rfm.cells { (endY s (getA rs ref) ref 6 now) with put := false, backer := -1 }).toArray] (some 76) (rset_spec F13 r g ts (endR s rs ref 6 now) ref ({ (endY s (getA rs ref) ref 6 now) with put := false, backer := -1 }) _ ho14 (by rw [hge3]; exact href) htr) ?_
  rintro _ w144 ⟨rfl, ⟨H146, hR147, hfr148⟩, hk145⟩
  refine ⟨_, rfl, ?_⟩
  have hsz149 := Keep.size hk145
  replace hr := hr.keep hk145 (fun hs => by have h1 := hgo _ hs; have h2 := hgl _ hs; omega)
  replace hb44_132 := hb44_132.keep hk145 (fun hs => by have h1 := hgo _ hs; have h2 := hgl _ hs; omega)
  replace hbo54 := hbo54.keep hk145 (fun hs => by have h1 := hgo _ hs; have h2 := hgl _ hs; omega)
  replace hA := SlT.keep hA hk145 (fun q hq hs => (fun q h1 h2 => (hAo q h2).2.2 h1) q hs hq)
  replace hA54 := SlT.keep hA54 hk145 (fun q hq hs => (fun q h1 h2 => (fun q h1 h2 => dis62 q h2 h1) q (by rw [show q = g from h1]; exact (Rfr.atg ho14)) h2) q hs hq)
  replace hK0 := Keep.fresh hK0 hk145 (by intro i hi hs; first | exact hs | (exfalso; have h1 := hgo i hs; have h2 := hgl i hs; omega) | (have h1 := hgo i hs; have h2 := hgl i hs; show _ ∨ _; omega))
  replace ho17 := VotT.keep ho17 hk145 (fun q hq hs => (fun q h1 h2 => hdis19 q (by rw [show q = g from h1]; exact (Rfr.atg ho14)) h2) q hs hq)
  replace ho54 := Led.keep ho54 hk145 (fun q hq hs => (fun q h1 h2 => (fun q h1 h2 => dis60 q h2 h1) q (by rw [show q = g from h1]; exact (Rfr.atg ho14)) h2) q hs hq)
  have own151 : ∀ q, H146 q → 0 ≤ q ∧ q ≠ b44 ∧ q ≠ b32 := fun q hq => by rcases hfr148 q hq with h | h; (have h1 := own22 q h; have h2 := lt21 q h; omega); omega
  have lt150 := Rfr.lt hR147
  have rel152 : ∀ q, H146 q → H q ∨ w.heap.size ≤ q := fun q hq => by rcases hfr148 q hq with h | h; exact rel23 q h; exact .inr (by omega)
  have dis153 : ∀ q, H146 q → ¬ inA A54 q := fun q h1 h2 => by rcases hfr148 q h1 with h | h; exact (fun q h1 h2 => dis62 q h2 h1) q h h2; (have h4 := ltA54 q h2; omega)
  have dis154 : ∀ q, H146 q → ¬ F16 q := fun q h1 h2 => by rcases hfr148 q h1 with h | h; exact hdis19 q h h2; (have h4 := lt25 q h2; omega)
  have dis155 : ∀ q, H146 q → ¬ G54 q := fun q h1 h2 => by rcases hfr148 q h1 with h | h; exact (fun q h1 h2 => dis60 q h2 h1) q h h2; (have h4 := lt56 q h2; omega)
  refine Oer ?_
  refine Oc 50 (.tmp 13) 0 (.slice A54 (([((Evt.mk 1 ref 6))] ++ [Evt.mk 6 ((getA rs ref).by_) (tkN xs ((getA rs ref).by_) 10)]).length) cap54) (some 77) hbo54 rfl ?_
  refine Os 3 [(10, .slice A54 (([((Evt.mk 1 ref 6))] ++ [Evt.mk 6 ((getA rs ref).by_) (tkN xs ((getA rs ref).by_) 10)]).length) cap54), (11, nt 0)] ?_
  refine Oe ?_
  refine V_ret ?_
  obtain ⟨h1156, h2156, h3156, h4156⟩ := kil_go (xs := xs) (s := s) (ts := ts) (now := now) hong
  have hp156 : (getA rs ref).put = true := hc51
  have hb156 : ¬ (getA rs ref).backer ≠ -1 := fun h => h hc65
  have h5156 : kilX xs ts rs ref = (slX xs ((getA rs ref).by_) 10) := by rw [h1156]; unfold kilX2 kilX1; rw [hp156, if_neg hb156]; rfl
  have h6156 : kilR s rs ref now = ((endR s rs ref 6 now).set ref.toNat ({ (endY s (getA rs ref) ref 6 now) with put := false, backer := -1 })) := by rw [h3156]; unfold endR; rw [List.set_set]
  have h7156 : kilL xs ts rs ref = ([((Evt.mk 1 ref 6))] ++ [Evt.mk 6 ((getA rs ref).by_) (tkN xs ((getA rs ref).by_) 10)]) := by rw [h4156]; unfold kilL2 kilL1 kilX1; rw [hp156, if_neg hb156]; rfl
  exact X_return (.tuple #[.slice A54 (([((Evt.mk 1 ref 6))] ++ [Evt.mk 6 ((getA rs ref).by_) (tkN xs ((getA rs ref).by_) 10)]).length) cap54, nt 0]) rfl ⟨A54, cap54, by rw [h7156, hong], by rw [h7156]; exact hA54, (fun q h => (owA54 q h).1), ⟨H146, F16, G54, (by rw [h6156]; exact hR147), (by rw [h2156]; exact ho17), (by rw [h5156]; exact ho54), rel152, rel27, rel58, dis154, dis155, (fun q h1 h2 => dis61 q h2 h1), ((fun q h1 h2 => dis153 q h2 h1)), (dis63), (dis64)⟩, hK0⟩
 refine V_skip ?_
 refine X_then ?_
 refine V_seq ?_
 refine Vr ?_
 refine Os 1 [(0, pt r), (3, nt ref), (13, pt b32), (14, pt b44), (16, .func (.func 59) #[] #[pt b32, pt b1]), (52, .pointer (some ⟨b44, 38, none⟩))] ?_
 refine Oc 3 (.tmp 52) 38 (nt ((getA rs ref).backer)) (some 53) hb44_49 rfl ?_
 refine Os 3 [(0, pt r), (3, nt ref), (13, pt b32), (14, pt b44), (16, .func (.func 59) #[] #[pt b32, pt b1]), (54, .bool (!(decide ((getA rs ref).backer = -1))))] ?_
 refine Oe ?_
 refine V_not ((getA rs ref).backer = -1) (by kernel_rfl) (fun hc157 => ?_) (fun hc157 => ?_)
 ·
  refine V_draws (acts [12]) none_ [[0, 1, 2, 3, 4, 5, 6, 7, 8, 9, 10, 11, 12]] (by kernel_rfl) (by repeat first | exact (by first | exact sure_body (by rintro _ _ ⟨_, _, h, _⟩; exact ⟨_, h⟩) | exact sure_body (by rintro _ _ ⟨_, _, h, _⟩; exact ⟨_, h⟩)) | refine sure_then ?_ | refine sure_block ?_ | refine sure_join ?_) (by kernel_rfl) ?_
  intro w159 hk158 he160 L hL161
  have hsz162 := Keep.size hk158
  replace hr := hr.keep hk158 (fun f => f)
  replace hb1 := hb1.keep hk158 (fun f => f)
  replace hb30 := hb30.keep hk158 (fun f => f)
  replace hb32_37 := hb32_37.keep hk158 (fun f => f)
  replace hb44_49 := hb44_49.keep hk158 (fun f => f)
  replace hA := SlT.keep0 hA hk158
  replace hl := Led.keep hl hk158 (fun _ _ f => f)
  replace hK0 := Keep.tr hK0 (Keep.ofNone hk158)
  replace ho14 := Rfr.keep ho14 hk158 (fun _ _ f => f)
  replace ho17 := VotT.keep ho17 hk158 (fun _ _ f => f)
  have qhr := hr
  have qhb1 := hb1
  have qhb30 := hb30
  have qhb32_37 := hb32_37
  have qhb44_49 := hb44_49
  have K163 : Keep none_ w159 w159 := Keep.refl _ _
  obtain rfl := List.mem_singleton.1 hL161
  refine Gs [2, 3, 4, 5, 6, 7, 8, 9, 10, 11, 12] [(0, pt r), (3, nt ref), (13, pt b32), (14, pt b44), (55, .func (.func 59) #[] #[pt b32, pt b1]), (56, .pointer (some ⟨b44, 38, none⟩))] ?_
  refine Gc0 3 (.tmp 56) 38 (nt ((getA rs ref).backer)) (some 57) qhb44_49 rfl ?_
  refine Gs [6, 7, 8, 9, 10, 11, 12] [(0, pt r), (3, nt ref), (13, pt b32), (14, pt b44), (55, .func (.func 59) #[] #[pt b32, pt b1]), (57, nt ((getA rs ref).backer)), (60, pt r)] ?_
  refine Gc0 29 (.tmp 60) 0 (.slice A ts.length cap) (some 61) qhr rfl ?_
  refine Gs [8, 9, 10, 11, 12] [(0, pt r), (3, nt ref), (13, pt b32), (14, pt b44), (55, .func (.func 59) #[] #[pt b32, pt b1]), (57, nt ((getA rs ref).backer)), (61, .slice A ts.length cap), (62, .pointer (some ⟨b44, 1, none⟩))] ?_
  refine Gc0 3 (.tmp 62) 1 (nt ((getA rs ref).track)) (some 63) qhb44_49 rfl ?_
  obtain ⟨b164, o164, L164, T164, rfl, hat164⟩ := SlT.open_ hA (by first | omega | (simp only [List.length_map]; omega) | (simp; done) | (simp; omega))
  have hb164lt := hat164.blk.lt
  have hob165 := hAr b164 ⟨_, rfl, rfl⟩
  have hob166 := hAlt b164 ⟨_, rfl, rfl⟩
  have hne167 : ∀ q, G q → q ≠ b164 := fun q hq hs => (fun q h1 h2 => hHG q (hAo q h2).1 h1) q hq ⟨_, rfl, hs⟩
  have own168 := fun q hq => And.intro (hlr q hq) (hne167 q hq)
  have hne169 : ∀ q, F16 q → q ≠ b164 := fun q hq hs => dis28 q hq ⟨_, rfl, hs⟩
  have own170 := fun q hq => And.intro (own26 q hq) (hne169 q hq)
  refine Gp_ [(0, pt r), (3, nt ref), (13, pt b32), (14, pt b44), (55, .func (.func 59) #[] #[pt b32, pt b1]), (57, nt ((getA rs ref).backer)), (61, .slice (some ⟨b164, o164, none⟩) ts.length cap), (63, nt ((getA rs ref).track))] ?_
  refine GI_eq [(0, pt r), (3, nt ref), (13, pt b32), (14, pt b44), (55, .func (.func 59) #[] #[pt b32, pt b1]), (57, nt ((getA rs ref).backer)), (61, .slice (some ⟨b164, o164, none⟩) ts.length cap), (63, nt ((jt : Nat) : Int))] (by rw [hjt]) ?_
  refine GI_pure (some 64) (.indexAddr 29 (.tmp 61) (.tmp 63)) (by kernel_rfl) (by kernel_rfl) (pure_idxN (b := b164) (o := o164) (len := ts.length) (cap := cap) (kd := .i64) (j := jt) (E := 27) (sz := 18) (by_ := 144) (by kernel_rfl) (by kernel_rfl) (by kernel_rfl) (by omega)) ?_
  refine Gs [11, 12] [(0, pt r), (3, nt ref), (13, pt b32), (14, pt b44), (55, .func (.func 59) #[] #[pt b32, pt b1]), (57, nt ((getA rs ref).backer)), (65, .pointer (some ⟨b164, o164 + jt * 18 + 1, none⟩))] ?_
  refine Gc0 3 (.tmp 65) (o164 + jt * 18 + 1) (nt ((trkA ts (getA rs ref).track).deposit)) (some 66) hat164.blk (At.cell hat164 (es_at htk) rfl) ?_
  refine GI_final 12 (by kernel_rfl) (by kernel_rfl) ?_
  refine Ok { callee := (Callee.value (Operand.tmp 55)), args := #[(Operand.tmp 57), (Operand.tmp 66)], argTypes := #[3, 3] } 59 #[nt ((getA rs ref).backer), nt ((trkA ts (getA rs ref).track).deposit), pt b32, pt b1] (some 67) (kill1_spec (some ⟨b30, 0, none⟩) 1 [((Evt.mk 1 ref 6))] b32 b1 G l xs cs ((getA rs ref).backer) ((trkA ts (getA rs ref).track).deposit) _ hb32_37 hb1 (slt_blk hb30 Evt.len rfl) hl (fun q h => by have h1 := inA_some h; omega) (fun q h => by have h1 := own168 q h; have h2 := hGlt q h; omega) (fun q h1 h2 => by have h3 := inA_some h1; have h4 := hGlt q h2; omega) (by simp) (by omega)) ?_
  rintro _ w171 ⟨A173, cap173, rfl, hbo173, hA173, fr173, ⟨G173, ho173, hfr173, hdA173⟩, hk172⟩
  refine ⟨_, rfl, ?_⟩
  have hsz174 := Keep.size hk172
  replace hr := hr.keep hk172 (fun hs => by rcases hs with hs | hs | hs; (have u0 := own168 _ hs; have u1 := hGlt _ hs; omega); (have u0 : _ = b32 := hs; omega); (have u0 := inA_some hs; omega))
  replace hb1 := hb1.keep hk172 (fun hs => by rcases hs with hs | hs | hs; (have u0 := own168 _ hs; have u1 := hGlt _ hs; omega); (have u0 : _ = b32 := hs; omega); (have u0 := inA_some hs; omega))
  replace hb44_49 := hb44_49.keep hk172 (fun hs => by rcases hs with hs | hs | hs; (have u0 := own168 _ hs; have u1 := hGlt _ hs; omega); (have u0 : _ = b32 := hs; omega); (have u0 := inA_some hs; omega))
  replace hat164 := hat164.keep hk172 (fun hs => by rcases hs with hs | hs | hs; (have u0 := own168 _ hs; have u1 := hGlt _ hs; omega); (have u0 : _ = b32 := hs; omega); (have u0 := inA_some hs; omega))
  replace hK0 := Keep.fresh hK0 hk172 (fun i hi hs => by rcases hs with hs | hs | hs; (rcases hGr i hs with h | h; exact .inr <| .inr <| h; (exfalso; omega)); (exfalso; have hs : i = b32 := hs; omega); (exfalso; have hs := inA_some hs; omega))
  replace ho14 := Rfr.keep ho14 hk172 (fun q hq hs => by rcases hs with hs | hs | hs; exact dis24 q hq hs; (have g0 := own22 q hq; have g1 := lt21 q hq; have u0 : q = b32 := hs; omega); (have g0 := own22 q hq; have g1 := lt21 q hq; have u0 := inA_some hs; omega))
  replace ho17 := VotT.keep ho17 hk172 (fun q hq hs => by rcases hs with hs | hs | hs; exact dis29 q hq hs; (have g0 := own170 q hq; have g1 := lt25 q hq; have u0 : q = b32 := hs; omega); (have g0 := own170 q hq; have g1 := lt25 q hq; have u0 := inA_some hs; omega))
  have hb32lt := hbo173.lt
  replace hbo173 : Blk w171 b32 [.slice A173 ([((Evt.mk 1 ref 6))] ++ [Evt.mk 6 ((getA rs ref).backer) (tkN xs ((getA rs ref).backer) ((trkA ts (getA rs ref).track).deposit))]).length cap173] 50 := by rw [List.length_append]; exact hbo173
  have own176 : ∀ q, G173 q → q ≠ r ∧ q ≠ r ∧ q ≠ b1 ∧ q ≠ b44 ∧ q ≠ b32 := fun q hq => by rcases hfr173 q hq with h | h; (have h1 := own168 q h; have h2 := hGlt q h; omega); omega
  have lt175 := Led.lt ho173
  have rel177 : ∀ q, G173 q → G q ∨ w.heap.size ≤ q := fun q hq => by rcases hfr173 q hq with h | h; exact hGr q h; exact .inr (by omega)
  have dis178 : ∀ q, G173 q → ¬ F13 q := fun q h1 h2 => by rcases hfr173 q h1 with h | h; exact (fun q h1 h2 => dis24 q h2 h1) q h h2; (have h4 := lt21 q h2; omega)
  have dis179 : ∀ q, G173 q → ¬ F16 q := fun q h1 h2 => by rcases hfr173 q h1 with h | h; exact (fun q h1 h2 => dis29 q h2 h1) q h h2; (have h4 := lt25 q h2; omega)
  have ltA173 := SlT.lt hA173
  have owA173 : ∀ q, inA A173 q → w.heap.size ≤ q ∧ q ≠ r ∧ q ≠ b1 ∧ q ≠ b44 ∧ q ≠ b32 := fun q hq => by rcases fr173 q hq with h | h; (have h8 := inA_some h; omega); omega
  have dis180 : ∀ q, inA A173 q → ¬ F13 q := fun q h1 h2 => by rcases fr173 q h1 with h | h; (have h3 := inA_some h; have h4 := lt21 q h2; have h5 := own22 q h2; omega); (have h4 := lt21 q h2; omega)
  have dis181 : ∀ q, inA A173 q → ¬ F16 q := fun q h1 h2 => by rcases fr173 q h1 with h | h; (have h3 := inA_some h; have h4 := lt25 q h2; have h5 := own170 q h2; omega); (have h4 := lt25 q h2; omega)
  have dis182 := hdA173
  refine Oer ?_
  refine Os 1 [(0, pt r), (3, nt ref), (13, pt b32), (14, pt b44), (68, .pointer (some ⟨b44, 37, none⟩))] ?_
  refine OI_set (m := 1) (kd := false) 4 (.tmp 68) (.const (Value.bool false)) 37 (.bool false) [.bool false] none (by kernel_rfl) (by kernel_rfl) (by kernel_rfl) hb44_49 (by kernel_rfl) (by kernel_rfl) (by kernel_rfl) (Nat.le_of_ble_eq_true (by kernel_rfl)) (by simp [Value.oneCell']) ?_
  intro w183 hb44_186 hk184 hz185
  replace hb44_186 : Blk w183 b44 (Rfm.cells { (endY s (getA rs ref) ref 6 now) with put := false }) 57 := (Blk.eqL (by kernel_rfl) hb44_186)
  have hsz187 := Keep.size hk184
  replace hr := hr.keep hk184 (by show ¬ (_ = _); omega)
  replace hb1 := hb1.keep hk184 (by show ¬ (_ = _); omega)
  replace hbo173 := hbo173.keep hk184 (by show ¬ (_ = _); omega)
  replace hat164 := hat164.keep hk184 (by show ¬ (_ = _); omega)
  replace hA173 := SlT.keep hA173 hk184 (fun q hq hs => by have hs : q = b44 := hs; have g0 := owA173 q hq; have g1 := ltA173 q hq; omega)
  replace hK0 := Keep.fresh hK0 hk184 (by intro i hi hs; first | exact hs | exact Or.inl hs | exact Or.inr hs | (exfalso; have hs2 : i = b44 := hs; omega))
  replace ho14 := Rfr.keep ho14 hk184 (fun q hq hs => by have hs : q = b44 := hs; have g0 := own22 q hq; have g1 := lt21 q hq; omega)
  replace ho17 := VotT.keep ho17 hk184 (fun q hq hs => by have hs : q = b44 := hs; have g0 := own170 q hq; have g1 := lt25 q hq; omega)
  replace ho173 := Led.keep ho173 hk184 (fun q hq hs => by have hs : q = b44 := hs; have g0 := own176 q hq; have g1 := lt175 q hq; omega)
  refine Os 3 [(0, pt r), (3, nt ref), (13, pt b32), (14, pt b44), (69, .pointer (some ⟨b44, 38, none⟩))] ?_
  refine OI_set (m := 1) (kd := false) 3 (.tmp 69) (.const (Value.int IntKind.i64 (-1))) 38 (nt (-1)) [nt (-1)] none (by kernel_rfl) (by kernel_rfl) (by kernel_rfl) hb44_186 (by kernel_rfl) (by kernel_rfl) (by kernel_rfl) (Nat.le_of_ble_eq_true (by kernel_rfl)) (by simp [Value.oneCell']) ?_
  intro w188 hb44_191 hk189 hz190
  replace hb44_191 : Blk w188 b44 (Rfm.cells { (endY s (getA rs ref) ref 6 now) with put := false, backer := -1 }) 57 := (Blk.eqL (by kernel_rfl) hb44_191)
  have hsz192 := Keep.size hk189
  replace hr := hr.keep hk189 (by show ¬ (_ = _); omega)
  replace hb1 := hb1.keep hk189 (by show ¬ (_ = _); omega)
  replace hbo173 := hbo173.keep hk189 (by show ¬ (_ = _); omega)
  replace hat164 := hat164.keep hk189 (by show ¬ (_ = _); omega)
  replace hA173 := SlT.keep hA173 hk189 (fun q hq hs => by have hs : q = b44 := hs; have g0 := owA173 q hq; have g1 := ltA173 q hq; omega)
  replace hK0 := Keep.fresh hK0 hk189 (by intro i hi hs; first | exact hs | exact Or.inl hs | exact Or.inr hs | (exfalso; have hs2 : i = b44 := hs; omega))
  replace ho14 := Rfr.keep ho14 hk189 (fun q hq hs => by have hs : q = b44 := hs; have g0 := own22 q hq; have g1 := lt21 q hq; omega)
  replace ho17 := VotT.keep ho17 hk189 (fun q hq hs => by have hs : q = b44 := hs; have g0 := own170 q hq; have g1 := lt25 q hq; omega)
  replace ho173 := Led.keep ho173 hk189 (fun q hq hs => by have hs : q = b44 := hs; have g0 := own176 q hq; have g1 := lt175 q hq; omega)
  refine Oe ?_
  refine V_seq ?_
  refine V_draws (acts [6]) none_ [[0, 1, 2, 3, 4, 5, 6]] (by kernel_rfl) (by repeat first | exact (by first | exact sure_body (by rintro _ _ ⟨_, _, h, _⟩; exact ⟨_, h⟩) | exact sure_body (by rintro _ _ ⟨_, _, h, _⟩; exact ⟨_, h⟩)) | refine sure_then ?_ | refine sure_block ?_ | refine sure_join ?_) (by kernel_rfl) ?_
  intro w194 hk193 he195 L hL196
  have hsz197 := Keep.size hk193
  replace hr := hr.keep hk193 (fun f => f)
  replace hb44_191 := hb44_191.keep hk193 (fun f => f)
  replace hbo173 := hbo173.keep hk193 (fun f => f)
  replace hat164 := hat164.keep hk193 (fun f => f)
  replace hA173 := SlT.keep0 hA173 hk193
  replace hK0 := Keep.tr hK0 (Keep.ofNone hk193)
  replace ho14 := Rfr.keep ho14 hk193 (fun _ _ f => f)
  replace ho17 := VotT.keep ho17 hk193 (fun _ _ f => f)
  replace ho173 := Led.keep ho173 hk193 (fun _ _ f => f)
  have qhr := hr
  have qhb44_191 := hb44_191
  have qhbo173 := hbo173
  have qhat164 := hat164
  have K198 : Keep none_ w194 w194 := Keep.refl _ _
  obtain rfl := List.mem_singleton.1 hL196
  refine Gs [3, 4, 5, 6] [(3, nt ref), (13, pt b32), (14, pt b44), (72, .pointer (some ⟨r, 1, none⟩))] ?_
  refine Gc0 95 (.tmp 72) 1 (pt g) (some 73) qhr rfl ?_
  refine Gs [5, 6] [(13, pt b32), (14, pt b44), (73, pt g), (74, nt ref)] ?_
  refine Ga 57 (.tmp 14) 0 (Rfm.cells { (endY s (getA rs ref) ref 6 now) with put := false, backer := -1 }) (some 75) 45 qhb44_191 (fun f => f) (take_all (Rfm.len _)) (Rfm.len _) ?_
  refine GI_final 6 (by kernel_rfl) (by kernel_rfl) ?_
  refine Ok { callee := (Callee.value (Operand.func 45)), args := #[(Operand.tmp 73), (Operand.const (Value.int IntKind.i64 0)), (Operand.tmp 74), (Operand.tmp 75)], argTypes := #[95, 3, 3, 57] } 45 #[pt g, nt 0, nt ref, .agg (Rfm.cells { (endY s (getA rs ref) ref 6 now) with put := false, backer := -1 }).toArray] (some 76) (rset_spec F13 r g ts (endR s rs ref 6 now) ref ({ (endY s (getA rs ref) ref 6 now) with put := false, backer := -1 }) _ ho14 (by rw [hge3]; exact href) htr) ?_
  rintro _ w203 ⟨rfl, ⟨H205, hR206, hfr207⟩, hk204⟩
  refine ⟨_, rfl, ?_⟩
  have hsz208 := Keep.size hk204
  replace hr := hr.keep hk204 (fun hs => by have h1 := hgo _ hs; have h2 := hgl _ hs; omega)
  replace hb44_191 := hb44_191.keep hk204 (fun hs => by have h1 := hgo _ hs; have h2 := hgl _ hs; omega)
  replace hbo173 := hbo173.keep hk204 (fun hs => by have h1 := hgo _ hs; have h2 := hgl _ hs; omega)
  replace hat164 := hat164.keep hk204 (fun hs => by have h1 := hgo _ hs; have h2 := hgl _ hs; omega)
  replace hA173 := SlT.keep hA173 hk204 (fun q hq hs => (fun q h1 h2 => (fun q h1 h2 => dis180 q h2 h1) q (by rw [show q = g from h1]; exact (Rfr.atg ho14)) h2) q hs hq)
  replace hK0 := Keep.fresh hK0 hk204 (by intro i hi hs; first | exact hs | (exfalso; have h1 := hgo i hs; have h2 := hgl i hs; omega) | (have h1 := hgo i hs; have h2 := hgl i hs; show _ ∨ _; omega))
  replace ho17 := VotT.keep ho17 hk204 (fun q hq hs => (fun q h1 h2 => hdis19 q (by rw [show q = g from h1]; exact (Rfr.atg ho14)) h2) q hs hq)
  replace ho173 := Led.keep ho173 hk204 (fun q hq hs => (fun q h1 h2 => (fun q h1 h2 => dis178 q h2 h1) q (by rw [show q = g from h1]; exact (Rfr.atg ho14)) h2) q hs hq)
  have own210 : ∀ q, H205 q → 0 ≤ q ∧ q ≠ b44 ∧ q ≠ b32 := fun q hq => by rcases hfr207 q hq with h | h; (have h1 := own22 q h; have h2 := lt21 q h; omega); omega
  have lt209 := Rfr.lt hR206
  have rel211 : ∀ q, H205 q → H q ∨ w.heap.size ≤ q := fun q hq => by rcases hfr207 q hq with h | h; exact rel23 q h; exact .inr (by omega)
  have dis212 : ∀ q, H205 q → ¬ inA A173 q := fun q h1 h2 => by rcases hfr207 q h1 with h | h; exact (fun q h1 h2 => dis180 q h2 h1) q h h2; (have h4 := ltA173 q h2; omega)
  have dis213 : ∀ q, H205 q → ¬ F16 q := fun q h1 h2 => by rcases hfr207 q h1 with h | h; exact hdis19 q h h2; (have h4 := lt25 q h2; omega)
  have dis214 : ∀ q, H205 q → ¬ G173 q := fun q h1 h2 => by rcases hfr207 q h1 with h | h; exact (fun q h1 h2 => dis178 q h2 h1) q h h2; (have h4 := lt175 q h2; omega)
  refine Oer ?_
  refine Oc 50 (.tmp 13) 0 (.slice A173 (([((Evt.mk 1 ref 6))] ++ [Evt.mk 6 ((getA rs ref).backer) (tkN xs ((getA rs ref).backer) ((trkA ts (getA rs ref).track).deposit))]).length) cap173) (some 77) hbo173 rfl ?_
  refine Os 3 [(10, .slice A173 (([((Evt.mk 1 ref 6))] ++ [Evt.mk 6 ((getA rs ref).backer) (tkN xs ((getA rs ref).backer) ((trkA ts (getA rs ref).track).deposit))]).length) cap173), (11, nt 0)] ?_
  refine Oe ?_
  refine V_ret ?_
  obtain ⟨h1215, h2215, h3215, h4215⟩ := kil_go (xs := xs) (s := s) (ts := ts) (now := now) hong
  have hp215 : (getA rs ref).put = false := hc51
  have hb215 : (getA rs ref).backer ≠ -1 := hc157
  have h5215 : kilX xs ts rs ref = (slX xs ((getA rs ref).backer) ((trkA ts (getA rs ref).track).deposit)) := by rw [h1215]; unfold kilX2 kilX1; rw [hp215, if_pos hb215]; rfl
  have h6215 : kilR s rs ref now = ((endR s rs ref 6 now).set ref.toNat ({ (endY s (getA rs ref) ref 6 now) with put := false, backer := -1 })) := by rw [h3215]; unfold endR; rw [List.set_set]
  have h7215 : kilL xs ts rs ref = ([((Evt.mk 1 ref 6))] ++ [Evt.mk 6 ((getA rs ref).backer) (tkN xs ((getA rs ref).backer) ((trkA ts (getA rs ref).track).deposit))]) := by rw [h4215]; unfold kilL2 kilL1 kilX1; rw [hp215, if_pos hb215]; rfl
  exact X_return (.tuple #[.slice A173 (([((Evt.mk 1 ref 6))] ++ [Evt.mk 6 ((getA rs ref).backer) (tkN xs ((getA rs ref).backer) ((trkA ts (getA rs ref).track).deposit))]).length) cap173, nt 0]) rfl ⟨A173, cap173, by rw [h7215, hong], by rw [h7215]; exact hA173, (fun q h => (owA173 q h).1), ⟨H205, F16, G173, (by rw [h6215]; exact hR206), (by rw [h2215]; exact ho17), (by rw [h5215]; exact ho173), rel211, rel27, rel177, dis213, dis214, (fun q h1 h2 => dis179 q h2 h1), ((fun q h1 h2 => dis212 q h2 h1)), (dis181), (dis182)⟩, hK0⟩
 refine V_skip ?_
 refine X_then ?_
 refine Vr ?_
 refine Os 1 [(0, pt r), (3, nt ref), (13, pt b32), (14, pt b44), (68, .pointer (some ⟨b44, 37, none⟩))] ?_
 refine OI_set (m := 1) (kd := false) 4 (.tmp 68) (.const (Value.bool false)) 37 (.bool false) [.bool false] none (by kernel_rfl) (by kernel_rfl) (by kernel_rfl) hb44_49 (by kernel_rfl) (by kernel_rfl) (by kernel_rfl) (Nat.le_of_ble_eq_true (by kernel_rfl)) (by simp [Value.oneCell']) ?_
 intro w216 hb44_219 hk217 hz218
 replace hb44_219 : Blk w216 b44 (Rfm.cells { (endY s (getA rs ref) ref 6 now) with put := false }) 57 := (Blk.eqL (by kernel_rfl) hb44_219)
 have hsz220 := Keep.size hk217
 replace hr := hr.keep hk217 (by show ¬ (_ = _); omega)
 replace hb1 := hb1.keep hk217 (by show ¬ (_ = _); omega)
 replace hb30 := hb30.keep hk217 (by show ¬ (_ = _); omega)
 replace hb32_37 := hb32_37.keep hk217 (by show ¬ (_ = _); omega)
 replace hA := SlT.keep hA hk217 (fun q hq hs => by have hs : q = b44 := hs; have g0 := hAr q hq; have g1 := hAlt q hq; omega)
 replace hl := Led.keep hl hk217 (fun q hq hs => by have hs : q = b44 := hs; have g0 := hlr q hq; have g1 := hGlt q hq; omega)
 replace hK0 := Keep.fresh hK0 hk217 (by intro i hi hs; first | exact hs | exact Or.inl hs | exact Or.inr hs | (exfalso; have hs2 : i = b44 := hs; omega))
 replace ho14 := Rfr.keep ho14 hk217 (fun q hq hs => by have hs : q = b44 := hs; have g0 := own22 q hq; have g1 := lt21 q hq; omega)
 replace ho17 := VotT.keep ho17 hk217 (fun q hq hs => by have hs : q = b44 := hs; have g0 := own26 q hq; have g1 := lt25 q hq; omega)
 refine Os 3 [(0, pt r), (3, nt ref), (13, pt b32), (14, pt b44), (69, .pointer (some ⟨b44, 38, none⟩))] ?_
 refine OI_set (m := 1) (kd := false) 3 (.tmp 69) (.const (Value.int IntKind.i64 (-1))) 38 (nt (-1)) [nt (-1)] none (by kernel_rfl) (by kernel_rfl) (by kernel_rfl) hb44_219 (by kernel_rfl) (by kernel_rfl) (by kernel_rfl) (Nat.le_of_ble_eq_true (by kernel_rfl)) (by simp [Value.oneCell']) ?_
 intro w221 hb44_224 hk222 hz223
 replace hb44_224 : Blk w221 b44 (Rfm.cells { (endY s (getA rs ref) ref 6 now) with put := false, backer := -1 }) 57 := (Blk.eqL (by kernel_rfl) hb44_224)
 have hsz225 := Keep.size hk222
 replace hr := hr.keep hk222 (by show ¬ (_ = _); omega)
 replace hb1 := hb1.keep hk222 (by show ¬ (_ = _); omega)
 replace hb30 := hb30.keep hk222 (by show ¬ (_ = _); omega)
 replace hb32_37 := hb32_37.keep hk222 (by show ¬ (_ = _); omega)
 replace hA := SlT.keep hA hk222 (fun q hq hs => by have hs : q = b44 := hs; have g0 := hAr q hq; have g1 := hAlt q hq; omega)
 replace hl := Led.keep hl hk222 (fun q hq hs => by have hs : q = b44 := hs; have g0 := hlr q hq; have g1 := hGlt q hq; omega)
 replace hK0 := Keep.fresh hK0 hk222 (by intro i hi hs; first | exact hs | exact Or.inl hs | exact Or.inr hs | (exfalso; have hs2 : i = b44 := hs; omega))
 replace ho14 := Rfr.keep ho14 hk222 (fun q hq hs => by have hs : q = b44 := hs; have g0 := own22 q hq; have g1 := lt21 q hq; omega)
 replace ho17 := VotT.keep ho17 hk222 (fun q hq hs => by have hs : q = b44 := hs; have g0 := own26 q hq; have g1 := lt25 q hq; omega)
 refine Oe ?_
 refine V_seq ?_
 refine V_draws (acts [6]) none_ [[0, 1, 2, 3, 4, 5, 6]] (by kernel_rfl) (by repeat first | exact (by first | exact sure_body (by rintro _ _ ⟨_, _, h, _⟩; exact ⟨_, h⟩) | exact sure_body (by rintro _ _ ⟨_, _, h, _⟩; exact ⟨_, h⟩)) | refine sure_then ?_ | refine sure_block ?_ | refine sure_join ?_) (by kernel_rfl) ?_
 intro w227 hk226 he228 L hL229
 have hsz230 := Keep.size hk226
 replace hr := hr.keep hk226 (fun f => f)
 replace hb30 := hb30.keep hk226 (fun f => f)
 replace hb32_37 := hb32_37.keep hk226 (fun f => f)
 replace hb44_224 := hb44_224.keep hk226 (fun f => f)
 replace hA := SlT.keep0 hA hk226
 replace hl := Led.keep hl hk226 (fun _ _ f => f)
 replace hK0 := Keep.tr hK0 (Keep.ofNone hk226)
 replace ho14 := Rfr.keep ho14 hk226 (fun _ _ f => f)
 replace ho17 := VotT.keep ho17 hk226 (fun _ _ f => f)
 have qhr := hr
 have qhb30 := hb30
 have qhb32_37 := hb32_37
 have qhb44_224 := hb44_224
 have K231 : Keep none_ w227 w227 := Keep.refl _ _
 obtain rfl := List.mem_singleton.1 hL229
 refine Gs [3, 4, 5, 6] [(3, nt ref), (13, pt b32), (14, pt b44), (72, .pointer (some ⟨r, 1, none⟩))] ?_
 refine Gc0 95 (.tmp 72) 1 (pt g) (some 73) qhr rfl ?_
 refine Gs [5, 6] [(13, pt b32), (14, pt b44), (73, pt g), (74, nt ref)] ?_
 refine Ga 57 (.tmp 14) 0 (Rfm.cells { (endY s (getA rs ref) ref 6 now) with put := false, backer := -1 }) (some 75) 45 qhb44_224 (fun f => f) (take_all (Rfm.len _)) (Rfm.len _) ?_
 refine GI_final 6 (by kernel_rfl) (by kernel_rfl) ?_
 refine Ok { callee := (Callee.value (Operand.func 45)), args := #[(Operand.tmp 73), (Operand.const (Value.int IntKind.i64 0)), (Operand.tmp 74), (Operand.tmp 75)], argTypes := #[95, 3, 3, 57] } 45 #[pt g, nt 0, nt ref, .agg (Rfm.cells { (endY s (getA rs ref) ref 6 now) with put := false, backer := -1 }).toArray] (some 76) (rset_spec F13 r g ts (endR s rs ref 6 now) ref ({ (endY s (getA rs ref) ref 6 now) with put := false, backer := -1 }) _ ho14 (by rw [hge3]; exact href) htr) ?_
 rintro _ w236 ⟨rfl, ⟨H238, hR239, hfr240⟩, hk237⟩
 refine ⟨_, rfl, ?_⟩
 have hsz241 := Keep.size hk237
 replace hr := hr.keep hk237 (fun hs => by have h1 := hgo _ hs; have h2 := hgl _ hs; omega)
 replace hb30 := hb30.keep hk237 (fun hs => by have h1 := hgo _ hs; have h2 := hgl _ hs; omega)
 replace hb32_37 := hb32_37.keep hk237 (fun hs => by have h1 := hgo _ hs; have h2 := hgl _ hs; omega)
 replace hb44_224 := hb44_224.keep hk237 (fun hs => by have h1 := hgo _ hs; have h2 := hgl _ hs; omega)
 replace hA := SlT.keep hA hk237 (fun q hq hs => (fun q h1 h2 => (hAo q h2).2.2 h1) q hs hq)
 replace hl := Led.keep hl hk237 (fun q hq hs => (fun q h1 h2 => dis24 q (by rw [show q = g from h1]; exact (Rfr.atg ho14)) h2) q hs hq)
 replace hK0 := Keep.fresh hK0 hk237 (by intro i hi hs; first | exact hs | (exfalso; have h1 := hgo i hs; have h2 := hgl i hs; omega) | (have h1 := hgo i hs; have h2 := hgl i hs; show _ ∨ _; omega))
 replace ho17 := VotT.keep ho17 hk237 (fun q hq hs => (fun q h1 h2 => hdis19 q (by rw [show q = g from h1]; exact (Rfr.atg ho14)) h2) q hs hq)
 have own243 : ∀ q, H238 q → 0 ≤ q ∧ q ≠ b30 ∧ q ≠ b32 ∧ q ≠ b44 := fun q hq => by rcases hfr240 q hq with h | h; (have h1 := own22 q h; have h2 := lt21 q h; omega); omega
 have lt242 := Rfr.lt hR239
 have rel244 : ∀ q, H238 q → H q ∨ w.heap.size ≤ q := fun q hq => by rcases hfr240 q hq with h | h; exact rel23 q h; exact .inr (by omega)
 have dis245 : ∀ q, H238 q → ¬ G q := fun q h1 h2 => by rcases hfr240 q h1 with h | h; exact dis24 q h h2; (have h4 := hGlt q h2; omega)
 have dis246 : ∀ q, H238 q → ¬ F16 q := fun q h1 h2 => by rcases hfr240 q h1 with h | h; exact hdis19 q h h2; (have h4 := lt25 q h2; omega)
 refine Oer ?_
 refine Oc 50 (.tmp 13) 0 (.slice (some ⟨b30, 0, none⟩) 1 1) (some 77) hb32_37 rfl ?_
 refine Os 3 [(10, .slice (some ⟨b30, 0, none⟩) 1 1), (11, nt 0)] ?_
 refine Oe ?_
 refine V_ret ?_
 obtain ⟨h1247, h2247, h3247, h4247⟩ := kil_go (xs := xs) (s := s) (ts := ts) (now := now) hong
 have hp247 : (getA rs ref).put = false := hc51
 have hb247 : ¬ (getA rs ref).backer ≠ -1 := fun h => h hc157
 have h5247 : kilX xs ts rs ref = xs := by rw [h1247]; unfold kilX2 kilX1; rw [hp247, if_neg hb247]; rfl
 have h6247 : kilR s rs ref now = ((endR s rs ref 6 now).set ref.toNat ({ (endY s (getA rs ref) ref 6 now) with put := false, backer := -1 })) := by rw [h3247]; unfold endR; rw [List.set_set]
 have h7247 : kilL xs ts rs ref = [Evt.mk 1 ref 6] := by rw [h4247]; unfold kilL2 kilL1 kilX1; rw [hp247, if_neg hb247]; rfl
 exact X_return (.tuple #[.slice (some ⟨b30, 0, none⟩) 1 1, nt 0]) rfl ⟨(some ⟨b30, 0, none⟩), 1, by rw [h7247, hong]; rfl, by rw [h7247]; exact slt_blk hb30 Evt.len rfl, (fun q h => by have h3 := inA_some h; omega), ⟨H238, F16, G, (by rw [h6247]; exact hR239), (by rw [h2247]; exact ho17), (by rw [h5247]; exact hl), rel244, rel27, hGr, dis246, dis245, dis29, fun q h1 h2 => by have h3 := inA_some h1; have h4 := lt242 q h2; have h5 := own243 q h2; omega, fun q h1 h2 => by have h3 := inA_some h1; have h4 := lt25 q h2; have h5 := own26 q h2; omega, fun q h1 h2 => by have h3 := inA_some h1; have h4 := hGlt q h2; have h5 := hlr q h2; omega⟩, hK0⟩

set_option maxRecDepth 10000 in
set_option maxHeartbeats 2000000 in
theorem kill_no (H : Nat → Prop) (r g : Nat) (ts : List Trk) (rs : List Rfm) (F : Nat → Prop) (v : Nat) (s : VS) (G : Nat → Prop) (l : Nat) (xs : List Acc) (cs : List Ci) (ref now : Int) (w : World) (hR : Rfr H w r g ts rs) (hV : VotT F w v s) (hl : Led G w l xs cs) (hHF : ∀ q, H q → ¬ F q) (hHG : ∀ q, H q → ¬ G q) (hFG : ∀ q, F q → ¬ G q) (hong : ¬ ongE rs ref = 0) : Calls Tryz.prog 28 #[.pointer (some ⟨r, 0, none⟩), .pointer (some ⟨l, 0, none⟩), .pointer (some ⟨v, 0, none⟩), .int .i64 ref, .int .i64 now] w fun e w' => ∃ A' cap', e = .returned (.tuple #[.slice A' (kilL xs ts rs ref).length cap', .int .i64 (ongE rs ref)]) ∧ SlT w' 3 Evt.cells A' cap' (kilL xs ts rs ref) ∧ (∀ q, inA A' q → w.heap.size ≤ q) ∧ (∃ H' F' G', Rfr H' w' r g ts (kilR s rs ref now) ∧ VotT F' w' v (kilS s rs ref now) ∧ Led G' w' l (kilX xs ts rs ref) cs ∧ (∀ q, H' q → H q ∨ w.heap.size ≤ q) ∧ (∀ q, F' q → F q ∨ w.heap.size ≤ q) ∧ (∀ q, G' q → G q ∨ w.heap.size ≤ q) ∧ (∀ q, H' q → ¬ F' q) ∧ (∀ q, H' q → ¬ G' q) ∧ (∀ q, F' q → ¬ G' q) ∧ (∀ q, inA A' q → ¬ H' q) ∧ (∀ q, inA A' q → ¬ F' q) ∧ (∀ q, inA A' q → ¬ G' q)) ∧ Keep (fun q => q = g ∨ F q ∨ G q) w w' := by
 have hHlt := Rfr.lt hR
 have hrH := Rfr.at_ hR
 have hgH := Rfr.atg hR
 have hrlt := hHlt _ hrH
 have hglt := hHlt _ hgH
 have hin := Rfr.inn hR
 obtain ⟨A, cap, hr, hA, hAo, hrg⟩ := Rfr.parts hR
 have hAlt := SlT.lt hA
 have hAr : ∀ q, inA A q → q ≠ r ∧ q ≠ g ∧ q < w.heap.size := fun q hq => ⟨(hAo q hq).2.1, (hAo q hq).2.2, hAlt q hq⟩
 have hgo : ∀ q, only g q → q ≠ r ∧ q = g := fun q hq => ⟨fun e => hrg (e.symm.trans hq), hq⟩
 have hgl : ∀ q, only g q → q < w.heap.size := fun q hq => by rw [show q = g from hq]; exact hglt
 have hHo : ∀ q, H q → 0 ≤ q := fun q _ => Nat.zero_le q
 have htl := hin.tl
 have hrl := hin.rl
 have hFlt := VotT.lt hV
 have hvlt := hFlt _ (VotT.at_ hV)
 have hVr : ∀ q, F q → q ≠ r := fun q hq e => hHF r hrH (e ▸ hq)
 have hGlt := Led.lt hl
 have hllt := hGlt _ (Led.at_ hl)
 have hlr : ∀ q, G q → q ≠ r := fun q hq e => hHG r hrH (e ▸ hq)
 have hinv := Led.inv hl
 have hHr : ∀ q, H q → H q ∨ w.heap.size ≤ q := fun _ h => .inl h
 have hFr : ∀ q, F q → F q ∨ w.heap.size ≤ q := fun _ h => .inl h
 have hGr : ∀ q, G q → G q ∨ w.heap.size ≤ q := fun _ h => .inl h
 have hK0 : Keep (fun q => q = g ∨ F q ∨ G q) w w := Keep.refl _ _
 have hzhK0 := Keep.size hK0
 refine enterV Tryz.func28 rfl [pt r, pt l, pt v, nt ref, nt now] 78 rfl rfl rfl ?_
 refine V_pick [(0, pt r), (1, pt l), (2, pt v), (3, nt ref), (4, nt now)] rfl ?_
 refine Vr ?_
 refine OI_box 32 (.tmp 1) (pt l) [pt l] (some 6) (by kernel_rfl) (by kernel_rfl) (by kernel_rfl) ?_
 intro b1 w1 e1 hb1 k1 z1
 have hsz2 := Keep.size k1
 replace hr := hr.keep k1 (fun f => f)
 replace hA := SlT.keep0 hA k1
 replace hR := Rfr.keep hR k1 (fun _ _ f => f)
 replace hV := VotT.keep hV k1 (fun _ _ f => f)
 replace hl := Led.keep hl k1 (fun _ _ f => f)
 replace hK0 := Keep.tr hK0 (Keep.ofNone k1)
 have hb1lt := hb1.lt
 refine Os 3 [(0, pt r), (2, pt v), (3, nt ref), (4, nt now), (6, pt b1)] ?_
 refine Oe ?_
 refine V_seq ?_
 refine Vr ?_
 refine Os 3 [(0, pt r), (2, pt v), (3, nt ref), (4, nt now), (6, pt b1), (19, .bool false)] ?_
 refine Oc 32 (.tmp 6) 0 (pt l) (some 20) hb1 rfl ?_
 refine Os 10 [(0, pt r), (2, pt v), (3, nt ref), (4, nt now), (6, pt b1), (26, .bool false)] ?_
 refine Oe ?_
 refine V_false rfl ?_
 refine V_skip ?_
 refine X_then ?_
 refine V_seq ?_
 refine Vr ?_
 refine Os 2 [(0, pt r), (2, pt v), (3, nt ref), (4, nt now), (6, pt b1), (27, pt r), (28, nt ref)] ?_
 refine Ok { callee := (Callee.value (Operand.func 54)), args := #[(Operand.tmp 27), (Operand.tmp 28)], argTypes := #[34, 3] } 54 #[pt r, nt ref] (some 29) (ongoing_spec H r g ts rs ref _ hR) ?_
 rintro _ w5 ⟨rfl, hk6⟩
 refine ⟨_, rfl, ?_⟩
 have hsz7 := Keep.size hk6
 replace hr := hr.keep hk6 (fun f => f)
 replace hb1 := hb1.keep hk6 (fun f => f)
 replace hA := SlT.keep0 hA hk6
 replace hR := Rfr.keep hR hk6 (fun _ _ f => f)
 replace hV := VotT.keep hV hk6 (fun _ _ f => f)
 replace hl := Led.keep hl hk6 (fun _ _ f => f)
 replace hK0 := Keep.tr hK0 (Keep.ofNone hk6)
 refine Os 4 [(0, pt r), (2, pt v), (3, nt ref), (4, nt now), (6, pt b1), (12, nt (ongE rs ref))] ?_
 refine Oer ?_
 refine Os 2 [(0, pt r), (2, pt v), (3, nt ref), (4, nt now), (6, pt b1), (12, nt (ongE rs ref)), (31, .bool (!(decide (ongE rs ref = 0))))] ?_
 refine Oe ?_
 refine V_eq [(0, pt r), (2, pt v), (3, nt ref), (4, nt now), (6, pt b1), (12, nt (ongE rs ref)), (31, .bool true)] (by rw [decide_eq_false hong]; rfl) ?_
 refine V_true rfl ?_
 refine Vr ?_
 refine Os 3 [(10, .slice none 0 0), (11, nt (ongE rs ref))] ?_
 refine Oe ?_
 refine V_ret ?_
 refine X_ret_then ?_
 obtain ⟨_, _, _, h19, h29, h39, h49⟩ := can_no (s := s) (now := now) (xs := xs) (ts := ts) (rs := rs) (ref := ref) rfl hong
 exact X_return (.tuple #[.slice none 0 0, nt (ongE rs ref)]) rfl ⟨none, 0, by rw [h49]; rfl, by rw [h49]; exact SlT.nil _ _ _, (fun q h => (inA_none h).elim), ⟨H, F, G, (by rw [h39]; exact hR), (by rw [h29]; exact hV), (by rw [h19]; exact hl), hHr, hFr, hGr, hHF, hHG, hFG, fun q h => (inA_none h).elim, fun q h => (inA_none h).elim, fun q h => (inA_none h).elim⟩, hK0⟩

theorem kill_spec (H : Nat → Prop) (r g : Nat) (ts : List Trk) (rs : List Rfm) (F : Nat → Prop) (v : Nat) (s : VS) (G : Nat → Prop) (l : Nat) (xs : List Acc) (cs : List Ci) (ref now : Int) (w : World) (hR : Rfr H w r g ts rs) (hV : VotT F w v s) (hl : Led G w l xs cs) (hHF : ∀ q, H q → ¬ F q) (hHG : ∀ q, H q → ¬ G q) (hFG : ∀ q, F q → ¬ G q) : Calls Tryz.prog 28 #[.pointer (some ⟨r, 0, none⟩), .pointer (some ⟨l, 0, none⟩), .pointer (some ⟨v, 0, none⟩), .int .i64 ref, .int .i64 now] w fun e w' => ∃ A' cap', e = .returned (.tuple #[.slice A' (kilL xs ts rs ref).length cap', .int .i64 (ongE rs ref)]) ∧ SlT w' 3 Evt.cells A' cap' (kilL xs ts rs ref) ∧ (∀ q, inA A' q → w.heap.size ≤ q) ∧ (∃ H' F' G', Rfr H' w' r g ts (kilR s rs ref now) ∧ VotT F' w' v (kilS s rs ref now) ∧ Led G' w' l (kilX xs ts rs ref) cs ∧ (∀ q, H' q → H q ∨ w.heap.size ≤ q) ∧ (∀ q, F' q → F q ∨ w.heap.size ≤ q) ∧ (∀ q, G' q → G q ∨ w.heap.size ≤ q) ∧ (∀ q, H' q → ¬ F' q) ∧ (∀ q, H' q → ¬ G' q) ∧ (∀ q, F' q → ¬ G' q) ∧ (∀ q, inA A' q → ¬ H' q) ∧ (∀ q, inA A' q → ¬ F' q) ∧ (∀ q, inA A' q → ¬ G' q)) ∧ Keep (fun q => q = g ∨ F q ∨ G q) w w' := by
  by_cases hong : ongE rs ref = 0
  · exact kill_go H r g ts rs F v s G l xs cs ref now w hR hV hl hHF hHG hFG hong
  · exact kill_no H r g ts rs F v s G l xs cs ref now w hR hV hl hHF hHG hFG hong
end Go.Al

