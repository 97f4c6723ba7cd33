/-
  Put together out of 5 texts: Walks of package refer: Service. Walks of the laws of refer: New. Walks of the laws of refer: the document's answers. Walks of the laws of refer: a beginning. Walks of the laws of refer: all referenda.
-/
import Derived.Test.YtjjfimbihdoknaaGreatReferFullB4
namespace Go.Al
open Go Go.RowKit Go.Proofs
section
variable {ts : List Trk} {rs r1 : List Rfm} {now iss ref st : Int} {s : VS} {q : SvS}
theorem begR_len (rs : List Rfm) (of : Int) : (begR ts s now rs of).length = rs.length := by unfold begR; rw [setsN_len]
theorem begK_len (rs : List Rfm) : ∀ k, (begK ts s now rs k).length = rs.length
  | 0 => rfl
  | k + 1 => by show (begR ts s now (begK ts s now rs k) _).length = _; rw [begR_len, begK_len rs k]
theorem svcStep_len (i : Int) (x : Rfm) (q : SvS) : (svcStep ts iss now i x q).rs.length = q.rs.length := by
  unfold svcStep
  split
  · rfl
  · split
    · show (q.rs.set _ _).length = _; rw [List.length_set]
    · show (q.rs.set _ _).length = _; rw [List.length_set]
theorem svcStep_at {k : Nat} (x : Rfm) (q : SvS) {j : Nat} (h : k < j) : (svcStep ts iss now (k : Int) x q).rs[j]? = q.rs[j]? := by
  unfold svcStep
  split
  · rfl
  · split
    · show (q.rs.set _ _)[j]? = _; rw [Int.toNat_natCast, List.getElem?_set_ne (by omega)]
    · show (q.rs.set _ _)[j]? = _; rw [Int.toNat_natCast, List.getElem?_set_ne (by omega)]
theorem svcK_at (q : SvS) : ∀ k, (svcK ts iss now r1 q k).rs.length = q.rs.length ∧ ∀ j, k ≤ j → (svcK ts iss now r1 q k).rs[j]? = q.rs[j]?
  | 0 => ⟨rfl, fun _ _ => rfl⟩
  | k + 1 => by
    obtain ⟨h1, h2⟩ := svcK_at q k
    show ((match r1[k]? with | none => svcK ts iss now r1 q k | some x => svcStep ts iss now k x (svcK ts iss now r1 q k)) : SvS).rs.length = _ ∧ ∀ j, k + 1 ≤ j → ((match r1[k]? with | none => svcK ts iss now r1 q k | some x => svcStep ts iss now k x (svcK ts iss now r1 q k)) : SvS).rs[j]? = _
    cases r1[k]? with
    | none => exact ⟨h1, fun j hj => h2 j (by omega)⟩
    | some x => exact ⟨(svcStep_len _ _ _).trans h1, fun j hj => (svcStep_at _ _ (by omega)).trans (h2 j (by omega))⟩
theorem svcK_step {k : Nat} {x : Rfm} (h : r1[k]? = some x) : svcK ts iss now r1 q (k + 1) = svcStep ts iss now (k : Int) x (svcK ts iss now r1 q k) := by
  show (match r1[k]? with | none => _ | some x => _) = _
  rw [h]
theorem step_skip {i : Int} {x : Rfm} (h : ¬ x.state = 1) : svcStep ts iss now i x q = q := by unfold svcStep; rw [if_pos h]
theorem step_on {i : Int} {x : Rfm} (h : x.state = 1) (h2 : decE ts x (tallyT q.s i) iss now = 0) : svcStep ts iss now i x q = { q with rs := q.rs.set i.toNat (decY ts x (tallyT q.s i) iss now) } := by unfold svcStep; rw [if_neg (fun h9 => h9 h), if_pos h2]
theorem step_end {i : Int} {x : Rfm} (h : x.state = 1) (h2 : ¬ decE ts x (tallyT q.s i) iss now = 0) : svcStep ts iss now i x q = ⟨closeS q.s i (decE ts x (tallyT q.s i) iss now) now, q.rs.set i.toNat (endY q.s (decY ts x (tallyT q.s i) iss now) i (decE ts x (tallyT q.s i) iss now) now), q.out ++ [Evt.mk 1 i (decE ts x (tallyT q.s i) iss now)]⟩ := by unfold svcStep; rw [if_neg (fun h9 => h9 h), if_neg h2]
theorem decY_trk (x : Rfm) (y : Tly) : (decY ts x y iss now).track = x.track := by unfold decY; split <;> rfl
theorem endR_set {y : Rfm} {k : Nat} (hk : k < rs.length) : endR s (rs.set ((k : Int)).toNat y) (k : Int) st now = rs.set ((k : Int)).toNat (endY s y (k : Int) st now) := by
  have e : getA (rs.set ((k : Int)).toNat y) (k : Int) = y := by
    unfold getA getR
    rw [List.length_set, if_pos (by omega), List.getElem?_set_self (by omega)]; rfl
  unfold endR
  rw [e, List.set_set]
theorem svc_out_len (q : SvS) : ∀ k, (svcK ts iss now r1 q k).out.length ≤ q.out.length + k
  | 0 => Nat.le_refl _
  | k + 1 => by
    have h := svc_out_len q k
    show ((match r1[k]? with | none => svcK ts iss now r1 q k | some x => svcStep ts iss now k x (svcK ts iss now r1 q k)) : SvS).out.length ≤ _
    cases r1[k]? with
    | none => show (svcK ts iss now r1 q k).out.length ≤ _; omega
    | some x =>
      show (svcStep ts iss now k x (svcK ts iss now r1 q k)).out.length ≤ _
      unfold svcStep
      split
      · omega
      · split
        · show (svcK ts iss now r1 q k).out.length ≤ _; omega
        · show (_ ++ [_]).length ≤ _; rw [List.length_append, List.length_singleton]; omega
end

set_option maxRecDepth 10000 in
set_option maxHeartbeats 4000000 in
theorem service_spec (H : Nat → Prop) (r g : Nat) (ts : List Trk) (rs : List Rfm) (F : Nat → Prop) (v : Nat) (s : VS) (G : Nat → Prop) (l : Nat) (xs : List Acc) (cs : List Ci) (now : Int) (w : World) (hR : Rfr H w r g ts rs) (hV : VotT F w v s) (hl : Led G w l xs cs) (hHF : ∀ q, H q → ¬ F q) (hHG : ∀ q, H q → ¬ G q) (hFG : ∀ q, F q → ¬ G q) : Calls Tryz.prog 22 #[.pointer (some ⟨r, 0, none⟩), .pointer (some ⟨l, 0, none⟩), .pointer (some ⟨v, 0, none⟩), .int .i64 now] w fun e w' => ∃ A' cap', e = .returned (.slice A' (svcQ ts xs s rs now).out.length cap') ∧ SlT w' 3 Evt.cells A' cap' (svcQ ts xs s rs now).out ∧ (∀ q, inA A' q → w.heap.size ≤ q) ∧ (∃ H' F', Rfr H' w' r g ts (svcQ ts xs s rs now).rs ∧ VotT F' w' v (svcQ ts xs s rs now).s ∧ (∀ q, H' q → H q ∨ w.heap.size ≤ q) ∧ (∀ q, F' q → F q ∨ w.heap.size ≤ q) ∧ (∀ q, H' q → ¬ F' q) ∧ (∀ q, inA A' q → ¬ H' q) ∧ (∀ q, inA A' q → ¬ F' q)) ∧ Keep (fun q => q = g ∨ F q) w w' := by
 have hHlt := Rfr.lt hR
 have hrH := Rfr.at_ hR
 have hgH := Rfr.atg hR
 have hrlt := hHlt _ hrH
 have hglt := hHlt _ hgH
 have hin := Rfr.inn hR
 obtain ⟨A, cap, hr, hA, hAo, hrg⟩ := Rfr.parts hR
 have hAlt := SlT.lt hA
 have hAr : ∀ q, inA A q → q ≠ r ∧ q ≠ g ∧ q < w.heap.size := fun q hq => ⟨(hAo q hq).2.1, (hAo q hq).2.2, hAlt q hq⟩
 have hgo : ∀ q, only g q → q ≠ r ∧ q = g := fun q hq => ⟨fun e => hrg (e.symm.trans hq), hq⟩
 have hgl : ∀ q, only g q → q < w.heap.size := fun q hq => by rw [show q = g from hq]; exact hglt
 have hHo : ∀ q, H q → 0 ≤ q := fun q _ => Nat.zero_le q
 have htl := hin.tl
 have hrl := hin.rl
 have hFlt := VotT.lt hV
 have hvlt := hFlt _ (VotT.at_ hV)
 have hVr : ∀ q, F q → q ≠ r := fun q hq e => hHF r hrH (e ▸ hq)
 have hGlt := Led.lt hl
 have hllt := hGlt _ (Led.at_ hl)
 have hlr : ∀ q, G q → q ≠ r := fun q hq e => hHG r hrH (e ▸ hq)
 have hinv := Led.inv hl
 have hHr : ∀ q, H q → H q ∨ w.heap.size ≤ q := fun _ h => .inl h
 have hFr : ∀ q, F q → F q ∨ w.heap.size ≤ q := fun _ h => .inl h
 have hK0 : Keep (fun q => q = g ∨ F q) w w := Keep.refl _ _
 have hzhK0 := Keep.size hK0
 refine enterM Tryz.func22 rfl [pt r, pt l, pt v, nt now] 77 rfl rfl rfl ?_
 refine V_pick [(0, pt r), (1, pt l), (2, pt v), (3, nt now)] rfl ?_
 refine V_seq ?_
 refine V_region ?_
 refine OI_box 34 (.tmp 0) (pt r) [pt r] (some 4) (by kernel_rfl) (by kernel_rfl) (by kernel_rfl) ?_
 intro b1 w1 e1 hb1 k1 z1
 have hsz2 := Keep.size k1
 replace hr := hr.keep k1 (fun f => f)
 replace hA := SlT.keep0 hA k1
 replace hR := Rfr.keep hR k1 (fun _ _ f => f)
 replace hV := VotT.keep hV k1 (fun _ _ f => f)
 replace hl := Led.keep hl k1 (fun _ _ f => f)
 replace hK0 := Keep.tr hK0 (Keep.ofNone k1)
 have hb1lt := hb1.lt
 refine OI_box 32 (.tmp 1) (pt l) [pt l] (some 5) (by kernel_rfl) (by kernel_rfl) (by kernel_rfl) ?_
 intro b3 w3 e3 hb3 k3 z3
 have hsz4 := Keep.size k3
 replace hr := hr.keep k3 (fun f => f)
 replace hb1 := hb1.keep k3 (fun f => f)
 replace hA := SlT.keep0 hA k3
 replace hR := Rfr.keep hR k3 (fun _ _ f => f)
 replace hV := VotT.keep hV k3 (fun _ _ f => f)
 replace hl := Led.keep hl k3 (fun _ _ f => f)
 replace hK0 := Keep.tr hK0 (Keep.ofNone k3)
 have hb3lt := hb3.lt
 refine OI_box 33 (.tmp 2) (pt v) [pt v] (some 6) (by kernel_rfl) (by kernel_rfl) (by kernel_rfl) ?_
 intro b5 w5 e5 hb5 k5 z5
 have hsz6 := Keep.size k5
 replace hr := hr.keep k5 (fun f => f)
 replace hb1 := hb1.keep k5 (fun f => f)
 replace hb3 := hb3.keep k5 (fun f => f)
 replace hA := SlT.keep0 hA k5
 replace hR := Rfr.keep hR k5 (fun _ _ f => f)
 replace hV := VotT.keep hV k5 (fun _ _ f => f)
 replace hl := Led.keep hl k5 (fun _ _ f => f)
 replace hK0 := Keep.tr hK0 (Keep.ofNone k5)
 have hb5lt := hb5.lt
 refine OI_box 3 (.tmp 3) (nt now) [nt now] (some 7) (by kernel_rfl) (by kernel_rfl) (by kernel_rfl) ?_
 intro b7 w7 e7 hb7 k7 z7
 have hsz8 := Keep.size k7
 replace hr := hr.keep k7 (fun f => f)
 replace hb1 := hb1.keep k7 (fun f => f)
 replace hb3 := hb3.keep k7 (fun f => f)
 replace hb5 := hb5.keep k7 (fun f => f)
 replace hA := SlT.keep0 hA k7
 replace hR := Rfr.keep hR k7 (fun _ _ f => f)
 replace hV := VotT.keep hV k7 (fun _ _ f => f)
 replace hl := Led.keep hl k7 (fun _ _ f => f)
 replace hK0 := Keep.tr hK0 (Keep.ofNone k7)
 have hb7lt := hb7.lt
 refine OI_static 5 [(4, pt b1), (5, pt b3), (6, pt b5), (7, pt b7), (8, .slice none 0 0)] (by kernel_rfl) ?_
 refine OI_end rfl ?_
 refine X_then ?_
 refine V_seq ?_
 refine V_seq ?_
 refine V_region ?_
 refine OI_cell 34 (.tmp 4) 0 (pt r) (some 15) (by kernel_rfl) (by kernel_rfl) hb1 (m := 1) (by kernel_rfl) rfl ?_
 refine OI_static 3 [(4, pt b1), (5, pt b3), (6, pt b5), (7, pt b7), (8, .slice none 0 0), (17, .bool false)] (by kernel_rfl) ?_
 refine OI_cell 32 (.tmp 5) 0 (pt l) (some 18) (by kernel_rfl) (by kernel_rfl) hb3 (m := 1) (by kernel_rfl) rfl ?_
 refine OI_static 7 [(4, pt b1), (5, pt b3), (6, pt b5), (7, pt b7), (8, .slice none 0 0), (21, .bool false)] (by kernel_rfl) ?_
 refine OI_cell 33 (.tmp 6) 0 (pt v) (some 22) (by kernel_rfl) (by kernel_rfl) hb5 (m := 1) (by kernel_rfl) rfl ?_
 refine OI_static 10 [(4, pt b1), (5, pt b3), (6, pt b5), (7, pt b7), (8, .slice none 0 0), (24, .bool false)] (by kernel_rfl) ?_
 refine OI_end rfl ?_
 refine X_then ?_
 refine V_false rfl ?_
 refine V_skip ?_
 refine X_then ?_
 refine V_seq ?_
 refine V_seq ?_
 refine V_region ?_
 refine OI_cell 34 (.tmp 4) 0 (pt r) (some 25) (by kernel_rfl) (by kernel_rfl) hb1 (m := 1) (by kernel_rfl) rfl ?_
 refine OI_static 3 [(4, pt b1), (5, pt b3), (6, pt b5), (7, pt b7), (8, .slice none 0 0), (27, pt r)] (by kernel_rfl) ?_
 refine OI_cell 29 (.tmp 27) 0 (.slice A ts.length cap) (some 28) (by kernel_rfl) (by kernel_rfl) hr (m := 1) (by kernel_rfl) rfl ?_
 refine OI_static 6 [(4, pt b1), (5, pt b3), (6, pt b5), (7, pt b7), (8, .slice none 0 0), (29, nt ((ts.length : Nat) : Int)), (30, nt 0)] (by kernel_rfl) ?_
 refine OI_end rfl ?_
 refine X_then ?_
 refine V_block ?_
 refine V_pick [(4, pt b1), (5, pt b3), (6, pt b5), (7, pt b7), (8, .slice none 0 0), (29, nt ((ts.length : Nat) : Int)), (30, nt 0)] rfl ?_
 refine V_loop (fun k wI e => ∃ i : Nat, ∃ Hi : Nat → Prop, (k + i = ts.length) ∧ (Rfr Hi wI r g ts (begK ts s now rs i)) ∧ (∀ q, Hi q → 0 ≤ q ∧ q ≠ b1 ∧ q ≠ b3 ∧ q ≠ b5 ∧ q ≠ b7) ∧ (∀ q, Hi q → H q ∨ w.heap.size ≤ q) ∧ (∀ q, Hi q → ¬ F q) ∧ (∀ q, Hi q → ¬ G q) ∧ Keep (only g) w7 wI ∧ e = [(4, pt b1), (5, pt b3), (6, pt b5), (7, pt b7), (8, .slice none 0 0), (29, nt ((ts.length : Nat) : Int)), (30, nt ((i : Nat) : Int))]) ts.length ⟨0, H, by omega, hR, (fun q hq => by have h1 := hHo q hq; have h2 := hHlt q hq; omega), hHr, hHF, hHG, Keep.refl _ _, rfl⟩ ?_
 rintro k10 w9 _ ⟨i, Hi, hki, hRi, hHio, hHifr, hHiF, hHiG, hk11, rfl⟩
 have hsz12 := Keep.size hk11
 replace hr := hr.keep hk11 (fun hs => by have h1 := hgo _ hs; have h2 := hgl _ hs; omega)
 replace hb1 := hb1.keep hk11 (fun hs => by have h1 := hgo _ hs; have h2 := hgl _ hs; omega)
 replace hb3 := hb3.keep hk11 (fun hs => by have h1 := hgo _ hs; have h2 := hgl _ hs; omega)
 replace hb5 := hb5.keep hk11 (fun hs => by have h1 := hgo _ hs; have h2 := hgl _ hs; omega)
 replace hb7 := hb7.keep hk11 (fun hs => by have h1 := hgo _ hs; have h2 := hgl _ hs; omega)
 replace hA := SlT.keep hA hk11 (fun q hq hs => (fun q h1 h2 => (hAo q h2).2.2 h1) q hs hq)
 replace hV := VotT.keep hV hk11 (fun q hq hs => (fun q h1 h2 => hHF q (by rw [show q = g from h1]; exact hgH) h2) q hs hq)
 replace hl := Led.keep hl hk11 (fun q hq hs => (fun q h1 h2 => hHG q (by rw [show q = g from h1]; exact hgH) h2) q hs hq)
 replace hK0 := Keep.fresh hK0 hk11 (by intro i hi hs; first | exact hs | (exfalso; have h1 := hgo i hs; have h2 := hgl i hs; omega) | (have h1 := hgo i hs; have h2 := hgl i hs; show _ ∨ _; omega))
 have hzhk11 := Keep.size hk11
 have lt13 := Rfr.lt hRi
 refine V_seq ?_
 refine V_region ?_
 refine OI_static 1 [(4, pt b1), (5, pt b3), (6, pt b5), (7, pt b7), (8, .slice none 0 0), (29, nt ((ts.length : Nat) : Int)), (30, nt ((i : Nat) : Int)), (31, .bool (decide (((i : Nat) : Int) < ((ts.length : Nat) : Int))))] (by kernel_rfl) ?_
 refine OI_end rfl ?_
 refine X_then ?_
 refine V_seq ?_
 refine V_if (((i : Nat) : Int) < ((ts.length : Nat) : Int)) (by kernel_rfl) (fun hc14 => ?_) (fun hc14 => ?_)
 ·
  have hki2 : i < ts.length := by omega
  refine V_skip ?_
  refine X_then ?_
  refine V_seq ?_
  refine V_block ?_
  refine V_seq ?_
  refine V_region ?_
  refine OI_static 2 [(4, pt b1), (5, pt b3), (6, pt b5), (7, pt b7), (8, .slice none 0 0), (9, nt ((i : Nat) : Int)), (29, nt ((ts.length : Nat) : Int)), (30, nt ((i : Nat) : Int))] (by kernel_rfl) ?_
  refine OI_end rfl ?_
  refine X_then ?_
  refine V_region ?_
  refine OI_cell 34 (.tmp 4) 0 (pt r) (some 33) (by kernel_rfl) (by kernel_rfl) hb1 (m := 1) (by kernel_rfl) rfl ?_
  refine OI_cell 33 (.tmp 6) 0 (pt v) (some 34) (by kernel_rfl) (by kernel_rfl) hb5 (m := 1) (by kernel_rfl) rfl ?_
  refine OI_static 3 [(4, pt b1), (5, pt b3), (6, pt b5), (7, pt b7), (8, .slice none 0 0), (29, nt ((ts.length : Nat) : Int)), (30, nt ((i : Nat) : Int)), (33, pt r), (34, pt v), (35, nt ((i : Nat) : Int))] (by kernel_rfl) ?_
  refine OI_cell 3 (.tmp 7) 0 (nt now) (some 36) (by kernel_rfl) (by kernel_rfl) hb7 (m := 1) (by kernel_rfl) rfl ?_
  refine OI_call { callee := (Callee.value (Operand.func 49)), args := #[(Operand.tmp 33), (Operand.tmp 34), (Operand.tmp 35), (Operand.tmp 36)], argTypes := #[34, 33, 3, 3] } 49 #[pt r, pt v, nt ((i : Nat) : Int), nt now] (some 37) (by kernel_rfl) (by kernel_rfl) (by kernel_rfl) (begins_spec Hi r g ts (begK ts s now rs i) F v s i now _ hRi hV hHiF hki2) ?_
  rintro _ w17 ⟨rfl, ⟨H19, ho20, hfr21⟩, hk18⟩
  refine ⟨_, rfl, ?_⟩
  have hsz22 := Keep.size hk18
  replace hr := hr.keep hk18 (fun hs => by have h1 := hgo _ hs; have h2 := hgl _ hs; omega)
  replace hb1 := hb1.keep hk18 (fun hs => by have h1 := hgo _ hs; have h2 := hgl _ hs; omega)
  replace hb3 := hb3.keep hk18 (fun hs => by have h1 := hgo _ hs; have h2 := hgl _ hs; omega)
  replace hb5 := hb5.keep hk18 (fun hs => by have h1 := hgo _ hs; have h2 := hgl _ hs; omega)
  replace hb7 := hb7.keep hk18 (fun hs => by have h1 := hgo _ hs; have h2 := hgl _ hs; omega)
  replace hA := SlT.keep hA hk18 (fun q hq hs => (fun q h1 h2 => (hAo q h2).2.2 h1) q hs hq)
  replace hV := VotT.keep hV hk18 (fun q hq hs => (fun q h1 h2 => hHiF q (by rw [show q = g from h1]; exact (Rfr.atg hRi)) h2) q hs hq)
  replace hl := Led.keep hl hk18 (fun q hq hs => (fun q h1 h2 => hHiG q (by rw [show q = g from h1]; exact (Rfr.atg hRi)) h2) q hs hq)
  replace hK0 := Keep.fresh hK0 hk18 (by intro i hi hs; first | exact hs | (exfalso; have h1 := hgo i hs; have h2 := hgl i hs; omega) | (have h1 := hgo i hs; have h2 := hgl i hs; show _ ∨ _; omega))
  replace hk11 := Keep.fresh hk11 hk18 (by intro i hi hs; first | exact hs | (exfalso; have h1 := hgo i hs; have h2 := hgl i hs; omega) | (have h1 := hgo i hs; have h2 := hgl i hs; show _ ∨ _; omega))
  have own24 : ∀ q, H19 q → 0 ≤ q ∧ q ≠ b1 ∧ q ≠ b3 ∧ q ≠ b5 ∧ q ≠ b7 := fun q hq => by rcases hfr21 q hq with h | h; (have h1 := hHio q h; have h2 := lt13 q h; omega); omega
  have lt23 := Rfr.lt ho20
  have rel25 : ∀ q, H19 q → H q ∨ w.heap.size ≤ q := fun q hq => by rcases hfr21 q hq with h | h; exact hHifr q h; exact .inr (by omega)
  have dis26 : ∀ q, H19 q → ¬ F q := fun q h1 h2 => by rcases hfr21 q h1 with h | h; exact hHiF q h h2; (have h4 := hFlt q h2; omega)
  have dis27 : ∀ q, H19 q → ¬ G q := fun q h1 h2 => by rcases hfr21 q h1 with h | h; exact hHiG q h h2; (have h4 := hGlt q h2; omega)
  refine OI_end rfl ?_
  refine X_block ?_
  refine X_then ?_
  refine V_region ?_
  have hw28 : IntKind.i64.wrap (((i : Nat) : Int) + 1) = ((i + 1 : Nat) : Int) := (wrap64_id (by omega) (by omega)).trans (by omega)
  refine OI_static 1 [(4, pt b1), (5, pt b3), (6, pt b5), (7, pt b7), (8, .slice none 0 0), (29, nt ((ts.length : Nat) : Int)), (38, nt (IntKind.i64.wrap (((i : Nat) : Int) + 1)))] (by kernel_rfl) ?_
  refine OI_eq [(4, pt b1), (5, pt b3), (6, pt b5), (7, pt b7), (8, .slice none 0 0), (29, nt ((ts.length : Nat) : Int)), (38, nt ((i + 1 : Nat) : Int))] (by rw [hw28]) ?_
  refine OI_static 2 [(4, pt b1), (5, pt b3), (6, pt b5), (7, pt b7), (8, .slice none 0 0), (29, nt ((ts.length : Nat) : Int)), (30, nt ((i + 1 : Nat) : Int))] (by kernel_rfl) ?_
  refine OI_end rfl ?_
  exact V_again (k10 - 1) (by omega) [(4, pt b1), (5, pt b3), (6, pt b5), (7, pt b7), (8, .slice none 0 0), (29, nt ((ts.length : Nat) : Int)), (30, nt ((i + 1 : Nat) : Int))] rfl ⟨i + 1, H19, by omega, ho20, (fun q hq => by have h1 := own24 q hq; have h2 := lt23 q hq; omega), rel25, dis26, dis27, hk11, rfl⟩
 ·
  refine V_exit ?_
  refine X_exit_then ?_
  refine X_exit_then ?_
  refine X_exit_here ?_
  refine X_then ?_
  refine V_seq ?_
  refine V_region ?_
  refine OI_alloc 50 (.slice none 0 0) [.slice none 0 0] (some 10) (by kernel_rfl) (by kernel_rfl) (by kernel_rfl) ?_
  intro b29 w29 e29 hb29 k29 z29
  have hsz30 := Keep.size k29
  replace hr := hr.keep k29 (fun f => f)
  replace hb1 := hb1.keep k29 (fun f => f)
  replace hb3 := hb3.keep k29 (fun f => f)
  replace hb5 := hb5.keep k29 (fun f => f)
  replace hb7 := hb7.keep k29 (fun f => f)
  replace hA := SlT.keep0 hA k29
  replace hV := VotT.keep hV k29 (fun _ _ f => f)
  replace hl := Led.keep hl k29 (fun _ _ f => f)
  replace hK0 := Keep.tr hK0 (Keep.ofNone k29)
  replace hRi := Rfr.keep hRi k29 (fun _ _ f => f)
  have hb29lt := hb29.lt
  refine OI_end rfl ?_
  refine X_then ?_
  refine V_seq ?_
  refine V_seq ?_
  refine V_region ?_
  refine OI_cell 34 (.tmp 4) 0 (pt r) (some 39) (by kernel_rfl) (by kernel_rfl) hb1 (m := 1) (by kernel_rfl) rfl ?_
  refine OI_call { callee := (Callee.value (Operand.func 48)), args := #[(Operand.tmp 39)], argTypes := #[34] } 48 #[pt r] (some 40) (by kernel_rfl) (by kernel_rfl) (by kernel_rfl) (all_at r g _ _ _ _ hr) ?_
  rintro _ w33 ⟨bg35, bs36, bn37, rfl, hbg35, hbs36, hbn37, hk34, hgebg35, hgebs36, hgebn37⟩
  refine ⟨_, rfl, ?_⟩
  have hsz38 := Keep.size hk34
  replace hr := hr.keep hk34 (fun f => f)
  replace hb1 := hb1.keep hk34 (fun f => f)
  replace hb3 := hb3.keep hk34 (fun f => f)
  replace hb5 := hb5.keep hk34 (fun f => f)
  replace hb7 := hb7.keep hk34 (fun f => f)
  replace hb29 := hb29.keep hk34 (fun f => f)
  replace hA := SlT.keep0 hA hk34
  replace hV := VotT.keep hV hk34 (fun _ _ f => f)
  replace hl := Led.keep hl hk34 (fun _ _ f => f)
  replace hK0 := Keep.tr hK0 (Keep.ofNone hk34)
  replace hRi := Rfr.keep hRi hk34 (fun _ _ f => f)
  have hbg35lt := hbg35.lt
  have hbs36lt := hbs36.lt
  have hbn37lt := hbn37.lt
  refine OI_end rfl ?_
  refine X_then ?_
  refine V_block ?_
  have hie : i = ts.length := by omega
  obtain ⟨r1, hr1⟩ : ∃ q, q = begK ts s now rs ts.length := ⟨_, rfl⟩
  rw [hie, ← hr1] at hRi
  have hr1l : r1.length = rs.length := by rw [hr1, begK_len]
  obtain ⟨D, hD9, hDH⟩ := Rfr.grqF hRi
  obtain ⟨_, _, _, _, A2, cap2, hat2, hAD2⟩ := hD9
  have hA2 := hat2.sl
  have owA2 : ∀ q, inA A2 q → q ≠ g ∧ q < w33.heap.size ∧ q ≠ b1 ∧ q ≠ b3 ∧ q ≠ b5 ∧ q ≠ b7 ∧ q ≠ b29 ∧ q ≠ bg35 ∧ q ≠ bs36 ∧ q ≠ bn37 := fun q hq => by have h1 := hHio q (hDH q (hAD2 q hq)); have h2 := lt13 q (hDH q (hAD2 q hq)); exact ⟨fun e => hat2.off (e ▸ hq), by omega⟩
  refine V_pick [(4, pt b1), (5, pt b3), (6, pt b5), (7, pt b7), (10, pt b29), (40, .func (.func 183) #[] #[pt bg35, pt bs36, pt bn37])] rfl ?_
  have hN0 : w.heap.size ≤ w33.heap.size := Keep.size hK0
  refine V_range2 (gf := 183) (caps := #[pt bg35, pt bs36, pt bn37]) (m := r1.length) (by kernel_rfl) (by kernel_rfl) (by kernel_rfl) (alongQ bg35 bs36 bn37 g cap2 A2 r1 (by omega)) (⟨hbg35, hat2, ⟨hbs36, hbn37, hA2⟩⟩) (fun W W' h k => ⟨h.1.quiet k, h.2.1.quiet k, h.2.2.quiet k⟩) (GQ.enc2_size _) (fun M1 k W => ∃ Ak : Option Addr, ∃ capk : Nat, ∃ Hk : Nat → Prop, ∃ Fk : Nat → Prop, (Blk W r [.slice A ts.length cap, pt g] 97) ∧ (Blk W b1 [pt r] 34) ∧ (Blk W b3 [pt l] 32) ∧ (Blk W b5 [pt v] 33) ∧ (Blk W b7 [nt now] 3) ∧ (Blk W bs36 [nt 0] 3) ∧ (Blk W bn37 [nt 0] 3) ∧ (SlT W 18 Trk.cells A cap ts) ∧ (SlT W 47 GQ.Ci.cells A2 cap2 (cellsQ 0 r1)) ∧ (Led G W l xs cs) ∧ (Keep (fun q => q = g ∨ F q) w W) ∧ (Blk W b29 [.slice Ak ((svcK ts (tot xs) now r1 ⟨s, r1, []⟩ k).out.length) capk] 50) ∧ (SlT W 3 Evt.cells Ak capk ((svcK ts (tot xs) now r1 ⟨s, r1, []⟩ k).out)) ∧ (Rfr Hk W r g ts (svcK ts (tot xs) now r1 ⟨s, r1, []⟩ k).rs) ∧ (VotT Fk W v (svcK ts (tot xs) now r1 ⟨s, r1, []⟩ k).s) ∧ (∀ q, inA Ak q → M1 ≤ q) ∧ (∀ q, Hk q → (q < w33.heap.size ∨ M1 ≤ q) ∧ q ≠ b1 ∧ q ≠ b3 ∧ q ≠ b5 ∧ q ≠ b7 ∧ q ≠ b29 ∧ q ≠ bs36 ∧ q ≠ bn37) ∧ (∀ q, Hk q → H q ∨ w.heap.size ≤ q) ∧ (∀ q, Fk q → (q < w33.heap.size ∨ M1 ≤ q) ∧ q ≠ r ∧ q ≠ b1 ∧ q ≠ b3 ∧ q ≠ b5 ∧ q ≠ b7 ∧ q ≠ b29 ∧ q ≠ bs36 ∧ q ≠ bn37) ∧ (∀ q, Fk q → F q ∨ w.heap.size ≤ q) ∧ (∀ q, Hk q → ¬ Fk q) ∧ (∀ q, Hk q → ¬ G q) ∧ (∀ q, Fk q → ¬ G q) ∧ (∀ q, Fk q → ¬ inA A2 q) ∧ (∀ q, Fk q → ¬ inA A q) ∧ (∀ q, inA Ak q → ¬ Hk q) ∧ (∀ q, inA Ak q → ¬ Fk q)) (fun M1 c k W => False) (fun M1 k W W' h hk => by obtain ⟨Ak, capk, Hk, Fk, jr, jb1, jb3, jb5, jb7, jbs36, jbn37, jA, jA2, jhl, jhK0, jb29, jAk, jR, jV, ownk, hHko, hHkr, hFko, hFkr, dHF, dHG, dFG, dFA2, dFA, dAkH, dAkF⟩ := h; exact ⟨Ak, capk, Hk, Fk, jr.quiet hk, jb1.quiet hk, jb3.quiet hk, jb5.quiet hk, jb7.quiet hk, jbs36.quiet hk, jbn37.quiet hk, jA.quiet hk, jA2.quiet hk, Led.quiet jhl hk, jhK0.quiet hk (by omega), jb29.quiet hk, jAk.quiet hk, Rfr.quiet jR hk, VotT.quiet jV hk, ownk, hHko, hHkr, hFko, hFkr, dHF, dHG, dFG, dFA2, dFA, dAkH, dAkF⟩) (fun _ _ _ _ _ h _ => h.elim) (fun M1 hM1 => ⟨none, 0, Hi, F, hr, hb1, hb3, hb5, hb7, hbs36, hbn37, hA, hA2, hl, hK0, hb29, SlT.nil _ _ _, hRi, hV, fun q h => (inA_none h).elim, (fun q hq => by have h1 := hHio q hq; have h2 := lt13 q hq; omega), hHifr, (fun q hq => by have h1 := hVr q hq; have h2 := hFlt q hq; omega), hFr, hHiF, hHiG, hFG, (fun q h1 h2 => hHiF q (hDH q (hAD2 q h2)) h1), (fun q h1 h2 => hHF q (hAo q h2).1 h1), fun q h => (inA_none h).elim, fun q h => (inA_none h).elim⟩) (fun M1 k W h => by obtain ⟨Ak, capk, Hk, Fk, jr, jb1, jb3, jb5, jb7, jbs36, jbn37, jA, jA2, jhl, jhK0, jb29, jAk, jR, jV, ownk, hHko, hHkr, hFko, hFkr, dHF, dHG, dFG, dFA2, dFA, dAkH, dAkF⟩ := h; exact ⟨jbs36, jbn37, jA2⟩) ?_ ?_ (fun _ _ _ _ _ _ _ _ h _ => h.elim)
  ·
   intro lp D M1 k W hD hl hM hMW hkm ⟨Ak, capk, Hk, Fk, jr, jb1, jb3, jb5, jb7, jbs36, jbn37, jA, jA2, jhl, jhK0, jb29, jAk, jR, jV, ownk, hHko, hHkr, hFko, hFkr, dHF, dHG, dFG, dFA2, dFA, dAkH, dAkF⟩ ⟨rr, hrr⟩ hDD
   have hzjhK0 := Keep.size jhK0
   have hrlt := jr.lt
   have hb1lt := jb1.lt
   have hb3lt := jb3.lt
   have hb5lt := jb5.lt
   have hb7lt := jb7.lt
   have hb29lt := jb29.lt
   have hbs36lt := jbs36.lt
   have hbn37lt := jbn37.lt
   have ltjA := SlT.lt jA
   have ltjA2 := SlT.lt jA2
   have ltjAk := SlT.lt jAk
   have lt39 := Rfr.lt jR
   have lt40 := VotT.lt jV
   obtain ⟨x, hx⟩ : ∃ x, r1[k]? = some x := ⟨_, List.getElem?_eq_getElem (by omega)⟩
   rw [GQ.enc2_at (zipQ_at0 hx)]
   obtain ⟨hql, hqa⟩ := svcK_at (ts := ts) (iss := (tot xs)) (now := now) (r1 := r1) ⟨s, r1, []⟩ k
   have hqx := (hqa k (Nat.le_refl _)).trans hx
   have hxt := (Rfr.inn jR).rtk x (List.mem_of_getElem? hqx)
   have hstp := svcK_step (ts := ts) (iss := (tot xs)) (now := now) (q := ⟨s, r1, []⟩) hx
   replace hql : (svcK ts (tot xs) now r1 ⟨s, r1, []⟩ k).rs.length = r1.length := hql
   have hol := svc_out_len (ts := ts) (iss := (tot xs)) (now := now) (r1 := r1) ⟨s, r1, []⟩ k
   replace hol : (svcK ts (tot xs) now r1 ⟨s, r1, []⟩ k).out.length ≤ 0 + k := hol
   have hkl : k < r1.length := hkm
   refine V_pick [(4, pt b1), (5, pt b3), (6, pt b5), (7, pt b7), (10, pt b29), (41, nt ((k : Nat) : Int)), (42, .agg (Rfm.cells x).toArray)] rfl ?_
   have hfen : Keep (fen w33.heap.size M1) W W := Keep.refl _ _
   have hzhfen := Keep.size hfen
   refine V_seq ?_
   refine V_region ?_
   refine OI_static 1 [(4, pt b1), (5, pt b3), (6, pt b5), (7, pt b7), (10, pt b29), (11, nt ((k : Nat) : Int)), (42, .agg (Rfm.cells x).toArray)] (by kernel_rfl) ?_
   refine OI_end rfl ?_
   refine X_then ?_
   refine V_region ?_
   refine OI_alloc 57 (.agg (Rfm.cells Rfm.zero).toArray) (Rfm.cells Rfm.zero) (some 12) (by kernel_rfl) (by kernel_rfl) (by kernel_rfl) ?_
   intro b41 w41 e41 hb41 k41 z41
   have hsz42 := Keep.size k41
   replace jr := jr.keep k41 (fun f => f)
   replace jb1 := jb1.keep k41 (fun f => f)
   replace jb3 := jb3.keep k41 (fun f => f)
   replace jb5 := jb5.keep k41 (fun f => f)
   replace jb7 := jb7.keep k41 (fun f => f)
   replace jb29 := jb29.keep k41 (fun f => f)
   replace jbs36 := jbs36.keep k41 (fun f => f)
   replace jbn37 := jbn37.keep k41 (fun f => f)
   replace jA := SlT.keep0 jA k41
   replace jA2 := SlT.keep0 jA2 k41
   replace jAk := SlT.keep0 jAk k41
   replace jhl := Led.keep jhl k41 (fun _ _ f => f)
   replace jhK0 := Keep.tr jhK0 (Keep.ofNone k41)
   replace jR := Rfr.keep jR k41 (fun _ _ f => f)
   replace jV := VotT.keep jV k41 (fun _ _ f => f)
   replace hfen := Keep.tr hfen (Keep.ofNone k41)
   have hb41lt := hb41.lt
   refine OI_set (m := 45) (kd := true) 57 (.tmp 12) (.tmp 42) 0 (.agg (Rfm.cells x).toArray) (Rfm.cells x) none (by kernel_rfl) (by kernel_rfl) (by kernel_rfl) hb41 (by kernel_rfl) rfl (Rfm.len _) (Nat.le_of_ble_eq_true (by kernel_rfl)) (Rfm.one _) ?_
   intro w43 hb41_46 hk44 hz45
   replace hb41_46 : Blk w43 b41 (Rfm.cells x) 57 := (Blk.eqL (Rfm.over _ _) hb41_46)
   have hsz47 := Keep.size hk44
   replace jr := jr.keep hk44 (by show ¬ (_ = _); omega)
   replace jb1 := jb1.keep hk44 (by show ¬ (_ = _); omega)
   replace jb3 := jb3.keep hk44 (by show ¬ (_ = _); omega)
   replace jb5 := jb5.keep hk44 (by show ¬ (_ = _); omega)
   replace jb7 := jb7.keep hk44 (by show ¬ (_ = _); omega)
   replace jb29 := jb29.keep hk44 (by show ¬ (_ = _); omega)
   replace jbs36 := jbs36.keep hk44 (by show ¬ (_ = _); omega)
   replace jbn37 := jbn37.keep hk44 (by show ¬ (_ = _); omega)
   replace jA := SlT.keep jA hk44 (fun q hq hs => by have hs : q = b41 := hs; have g0 := hAr q hq; have g1 := ltjA q hq; omega)
   replace jA2 := SlT.keep jA2 hk44 (fun q hq hs => by have hs : q = b41 := hs; have g0 := owA2 q hq; have g1 := ltjA2 q hq; omega)
   replace jAk := SlT.keep jAk hk44 (fun q hq hs => by have hs : q = b41 := hs; have g0 := ownk q hq; have g1 := ltjAk q hq; omega)
   replace jhl := Led.keep jhl hk44 (fun q hq hs => by have hs : q = b41 := hs; have g0 := hlr q hq; have g1 := hGlt q hq; omega)
   replace jhK0 := Keep.fresh jhK0 hk44 (by intro i hi hs; first | exact hs | exact Or.inl hs | exact Or.inr hs | (exfalso; have hs2 : i = b41 := hs; omega))
   replace jR := Rfr.keep jR hk44 (fun q hq hs => by have hs : q = b41 := hs; have g0 := hHko q hq; have g1 := lt39 q hq; omega)
   replace jV := VotT.keep jV hk44 (fun q hq hs => by have hs : q = b41 := hs; have g0 := hFko q hq; have g1 := lt40 q hq; omega)
   replace hfen := Keep.fresh hfen hk44 (by intro i hi hs; have hs2 : i = b41 := hs; show _ ∨ _; omega)
   refine OI_end rfl ?_
   refine X_begin2 hfen ?_
   intro W2 hk2 ⟨r2, hr2⟩ hD2
   have hsz48 := Keep.size hk2
   replace jr := Blk.quiet jr hk2
   replace jb1 := Blk.quiet jb1 hk2
   replace jb3 := Blk.quiet jb3 hk2
   replace jb5 := Blk.quiet jb5 hk2
   replace jb7 := Blk.quiet jb7 hk2
   replace jb29 := Blk.quiet jb29 hk2
   replace jbs36 := Blk.quiet jbs36 hk2
   replace jbn37 := Blk.quiet jbn37 hk2
   replace hb41_46 := Blk.quiet hb41_46 hk2
   replace jA := SlT.quiet jA hk2
   replace jA2 := SlT.quiet jA2 hk2
   replace jAk := SlT.quiet jAk hk2
   replace jhl := Led.quiet jhl hk2
   replace jhK0 := Keep.quiet jhK0 hk2 (by omega)
   replace jR := Rfr.quiet jR hk2
   replace jV := VotT.quiet jV hk2
   have hzhk2 := Keep.size hk2
   have hfenb : Keep (fen w33.heap.size M1) W2 W2 := Keep.refl _ _
   have hzhfenb := Keep.size hfenb
   refine V_block ?_
   refine V_seq ?_
   refine V_seq ?_
   refine V_region ?_
   refine OI_static 1 [(4, pt b1), (5, pt b3), (6, pt b5), (7, pt b7), (10, pt b29), (11, nt ((k : Nat) : Int)), (12, pt b41), (43, pt b41)] (by kernel_rfl) ?_
   refine OI_cell 3 (.tmp 43) 0 (nt x.state) (some 44) (by kernel_rfl) (by kernel_rfl) hb41_46 (m := 1) (by kernel_rfl) rfl ?_
   refine OI_static 3 [(4, pt b1), (5, pt b3), (6, pt b5), (7, pt b7), (10, pt b29), (11, nt ((k : Nat) : Int)), (12, pt b41), (45, .bool (!(decide (x.state = 1))))] (by kernel_rfl) ?_
   refine OI_end rfl ?_
   refine X_then ?_
   refine V_not (x.state = 1) (by kernel_rfl) (fun hc49 => ?_) (fun hc49 => ?_)
   ·
    refine V_exit ?_
    refine X_exit_then ?_
    refine X_exit_here ?_
    have hq9 := hstp.trans (step_skip hc49)
    exact fun a _ => ⟨hfenb, Ak, capk, Hk, Fk, jr, jb1, jb3, jb5, jb7, jbs36, jbn37, jA, jA2, jhl, jhK0, by rw [hq9]; exact jb29, by rw [hq9]; exact jAk, by rw [hq9]; exact jR, by rw [hq9]; exact jV, ownk, (fun q hq => by have h1 := hHko q hq; have h2 := lt39 q hq; omega), hHkr, (fun q hq => by have h1 := hFko q hq; have h2 := lt40 q hq; omega), hFkr, dHF, dHG, dFG, dFA2, dFA, dAkH, dAkF⟩
   ·
    refine V_skip ?_
    refine X_then ?_
    refine V_seqJ (fun wI e => ∃ b13 : Nat, (Blk wI b13 (Rfm.cells (decY ts x (tallyT ((svcK ts (tot xs) now r1 ⟨s, r1, []⟩ k).s) ((k : Nat) : Int)) (tot xs) now)) 57) ∧ (W2.heap.size ≤ b13) ∧ Keep none_ W2 wI ∧ e = [(4, pt b1), (6, pt b5), (7, pt b7), (10, pt b29), (11, nt ((k : Nat) : Int)), (13, pt b13), (14, nt (decE ts x (tallyT ((svcK ts (tot xs) now r1 ⟨s, r1, []⟩ k).s) ((k : Nat) : Int)) (tot xs) now))]) ?_ ?_
    ·
     have hk50 : Keep none_ W2 W2 := Keep.refl _ _
     refine V_draws (acts [4, 6, 8, 12, 13]) none_ [[2, 3, 4, 5, 6, 0, 1, 7, 8, 12, 9, 10, 13, 11, 14], [2, 3, 4, 5, 6, 12, 0, 1, 7, 8, 9, 10, 13, 11, 14], [2, 3, 4, 12, 5, 6, 0, 1, 7, 8, 9, 10, 13, 11, 14], [12, 2, 3, 4, 5, 6, 0, 1, 7, 8, 9, 10, 13, 11, 14]] (by kernel_rfl) (by repeat first | exact (by first | exact sure_postM | exact sure_rQ2 | exact sure_no) | refine sure_then ?_ | refine sure_block ?_ | refine sure_join ?_) (by kernel_rfl) ?_
     intro w52 hk51 he53 L hL54
     have hsz55 := Keep.size hk51
     replace jr := jr.keep hk51 (fun f => f)
     replace jb1 := jb1.keep hk51 (fun f => f)
     replace jb3 := jb3.keep hk51 (fun f => f)
     replace jb5 := jb5.keep hk51 (fun f => f)
     replace jb7 := jb7.keep hk51 (fun f => f)
     replace jb29 := jb29.keep hk51 (fun f => f)
     replace jbs36 := jbs36.keep hk51 (fun f => f)
     replace jbn37 := jbn37.keep hk51 (fun f => f)
     replace hb41_46 := hb41_46.keep hk51 (fun f => f)
     replace jA := SlT.keep0 jA hk51
     replace jA2 := SlT.keep0 jA2 hk51
     replace jAk := SlT.keep0 jAk hk51
     replace jhl := Led.keep jhl hk51 (fun _ _ f => f)
     replace jhK0 := Keep.tr jhK0 (Keep.ofNone hk51)
     replace jR := Rfr.keep jR hk51 (fun _ _ f => f)
     replace jV := VotT.keep jV hk51 (fun _ _ f => f)
     replace hfenb := Keep.tr hfenb (Keep.ofNone hk51)
     replace hk50 := Keep.tr hk50 (Keep.ofNone hk51)
     have qjr := jr
     have qjb1 := jb1
     have qjb3 := jb3
     have qjb5 := jb5
     have qjb7 := jb7
     have qjb29 := jb29
     have qjbs36 := jbs36
     have qjbn37 := jbn37
     have qhb41_46 := hb41_46
     have K56 : Keep none_ w52 w52 := Keep.refl _ _
     simp only [List.mem_cons, List.not_mem_nil, or_false] at hL54
     rcases hL54 with rfl | rfl | rfl | rfl
     ·
      refine GI_cell 33 (.tmp 6) 0 (pt v) (some 49) (by kernel_rfl) (by kernel_rfl) (by kernel_rfl) qjb5 (fun f => f) (m := 1) (by kernel_rfl) rfl ?_
      refine GI_static [4, 5, 6, 0, 1, 7, 8, 12, 9, 10, 13, 11, 14] [(4, pt b1), (5, pt b3), (6, pt b5), (7, pt b7), (10, pt b29), (11, nt ((k : Nat) : Int)), (12, pt b41), (49, pt v), (50, nt ((k : Nat) : Int))] (by kernel_rfl) ?_
      refine GI_call { callee := (Callee.value (Operand.func 32)), args := #[(Operand.tmp 49), (Operand.tmp 50)], argTypes := #[33, 3] } 32 #[pt v, nt ((k : Nat) : Int)] (some 51) (by kernel_rfl) (by kernel_rfl) (by kernel_rfl) (by kernel_rfl) (tally_spec Fk v ((svcK ts (tot xs) now r1 ⟨s, r1, []⟩ k).s) ((k : Nat) : Int) _ (jV).1) ?_
      rintro _ w59 ⟨rfl, hk60⟩
      have K61 := K56.tr (Keep.ofNone hk60)
      refine ⟨_, rfl, K61, ?_⟩
      have hzK61 := Keep.size K61
      have hsz62 := Keep.size hk60
      replace jr := jr.keep hk60 (fun f => f)
      replace jb1 := jb1.keep hk60 (fun f => f)
      replace jb3 := jb3.keep hk60 (fun f => f)
      replace jb5 := jb5.keep hk60 (fun f => f)
      replace jb7 := jb7.keep hk60 (fun f => f)
      replace jb29 := jb29.keep hk60 (fun f => f)
      replace jbs36 := jbs36.keep hk60 (fun f => f)
      replace jbn37 := jbn37.keep hk60 (fun f => f)
      replace hb41_46 := hb41_46.keep hk60 (fun f => f)
      replace jA := SlT.keep0 jA hk60
      replace jA2 := SlT.keep0 jA2 hk60
      replace jAk := SlT.keep0 jAk hk60
      replace jhl := Led.keep jhl hk60 (fun _ _ f => f)
      replace jhK0 := Keep.tr jhK0 (Keep.ofNone hk60)
      replace jR := Rfr.keep jR hk60 (fun _ _ f => f)
      replace jV := VotT.keep jV hk60 (fun _ _ f => f)
      replace hfenb := Keep.tr hfenb (Keep.ofNone hk60)
      replace hk50 := Keep.tr hk50 (Keep.ofNone hk60)
      refine GI_cell 32 (.tmp 5) 0 (pt l) (some 52) (by kernel_rfl) (by kernel_rfl) (by kernel_rfl) qjb3 (fun f => f) (m := 1) (by kernel_rfl) rfl ?_
      refine GI_call { callee := (Callee.value (Operand.func 51)), args := #[(Operand.tmp 52)], argTypes := #[32] } 51 #[pt l] (some 53) (by kernel_rfl) (by kernel_rfl) (by kernel_rfl) (by kernel_rfl) (issued_spec G l xs cs _ jhl) ?_
      rintro _ w65 ⟨rfl, hk66⟩
      have K67 := K61.tr (Keep.ofNone hk66)
      refine ⟨_, rfl, K67, ?_⟩
      have hzK67 := Keep.size K67
      have hsz68 := Keep.size hk66
      replace jr := jr.keep hk66 (fun f => f)
      replace jb1 := jb1.keep hk66 (fun f => f)
      replace jb3 := jb3.keep hk66 (fun f => f)
      replace jb5 := jb5.keep hk66 (fun f => f)
      replace jb7 := jb7.keep hk66 (fun f => f)
      replace jb29 := jb29.keep hk66 (fun f => f)
      replace jbs36 := jbs36.keep hk66 (fun f => f)
      replace jbn37 := jbn37.keep hk66 (fun f => f)
      replace hb41_46 := hb41_46.keep hk66 (fun f => f)
      replace jA := SlT.keep0 jA hk66
      replace jA2 := SlT.keep0 jA2 hk66
      replace jAk := SlT.keep0 jAk hk66
      replace jhl := Led.keep jhl hk66 (fun _ _ f => f)
      replace jhK0 := Keep.tr jhK0 (Keep.ofNone hk66)
      replace jR := Rfr.keep jR hk66 (fun _ _ f => f)
      replace jV := VotT.keep jV hk66 (fun _ _ f => f)
      replace hfenb := Keep.tr hfenb (Keep.ofNone hk66)
      replace hk50 := Keep.tr hk50 (Keep.ofNone hk66)
      refine GI_cell 34 (.tmp 4) 0 (pt r) (some 47) (by kernel_rfl) (by kernel_rfl) (by kernel_rfl) qjb1 (fun f => f) (m := 1) (by kernel_rfl) rfl ?_
      refine GI_agg 57 (.tmp 12) 0 (Rfm.cells x) (some 48) (by kernel_rfl) (by kernel_rfl) (by kernel_rfl) qhb41_46 (fun f => f) (m := 45) (by kernel_rfl) (take_all (Rfm.len _)) (Rfm.len _) ?_
      refine GI_cell 3 (.tmp 7) 0 (nt now) (some 54) (by kernel_rfl) (by kernel_rfl) (by kernel_rfl) qjb7 (fun f => f) (m := 1) (by kernel_rfl) rfl ?_
      refine GI_call { callee := (Callee.value (Operand.func 50)), args := #[(Operand.tmp 47), (Operand.tmp 48), (Operand.tmp 51), (Operand.tmp 53), (Operand.tmp 54)], argTypes := #[34, 57, 55, 3, 3] } 50 #[pt r, .agg (Rfm.cells x).toArray, .agg (Tly.cells (tallyT ((svcK ts (tot xs) now r1 ⟨s, r1, []⟩ k).s) ((k : Nat) : Int))).toArray, nt (tot xs), nt now] (some 55) (by kernel_rfl) (by kernel_rfl) (by kernel_rfl) (by kernel_rfl) (decides_spec Hk r g ts (svcK ts (tot xs) now r1 ⟨s, r1, []⟩ k).rs x (tallyT ((svcK ts (tot xs) now r1 ⟨s, r1, []⟩ k).s) ((k : Nat) : Int)) (tot xs) now _ jR hxt) ?_
      rintro _ w69 ⟨rfl, hk70⟩
      have K71 := K67.tr (Keep.ofNone hk70)
      refine ⟨_, rfl, K71, ?_⟩
      have hzK71 := Keep.size K71
      have hsz72 := Keep.size hk70
      replace jr := jr.keep hk70 (fun f => f)
      replace jb1 := jb1.keep hk70 (fun f => f)
      replace jb3 := jb3.keep hk70 (fun f => f)
      replace jb5 := jb5.keep hk70 (fun f => f)
      replace jb7 := jb7.keep hk70 (fun f => f)
      replace jb29 := jb29.keep hk70 (fun f => f)
      replace jbs36 := jbs36.keep hk70 (fun f => f)
      replace jbn37 := jbn37.keep hk70 (fun f => f)
      replace hb41_46 := hb41_46.keep hk70 (fun f => f)
      replace jA := SlT.keep0 jA hk70
      replace jA2 := SlT.keep0 jA2 hk70
      replace jAk := SlT.keep0 jAk hk70
      replace jhl := Led.keep jhl hk70 (fun _ _ f => f)
      replace jhK0 := Keep.tr jhK0 (Keep.ofNone hk70)
      replace jR := Rfr.keep jR hk70 (fun _ _ f => f)
      replace jV := VotT.keep jV hk70 (fun _ _ f => f)
      replace hfenb := Keep.tr hfenb (Keep.ofNone hk70)
      replace hk50 := Keep.tr hk50 (Keep.ofNone hk70)
      refine GI_alloc 57 (.agg (Rfm.cells Rfm.zero).toArray) (Rfm.cells Rfm.zero) (some 13) (by kernel_rfl) (by kernel_rfl) K71 (by kernel_rfl) (by kernel_rfl) ?_
      intro b73 w73 e73 hb73 k73 z73 K74
      have hsz75 := Keep.size k73
      replace jr := jr.keep k73 (fun f => f)
      replace jb1 := jb1.keep k73 (fun f => f)
      replace jb3 := jb3.keep k73 (fun f => f)
      replace jb5 := jb5.keep k73 (fun f => f)
      replace jb7 := jb7.keep k73 (fun f => f)
      replace jb29 := jb29.keep k73 (fun f => f)
      replace jbs36 := jbs36.keep k73 (fun f => f)
      replace jbn37 := jbn37.keep k73 (fun f => f)
      replace hb41_46 := hb41_46.keep k73 (fun f => f)
      replace jA := SlT.keep0 jA k73
      replace jA2 := SlT.keep0 jA2 k73
      replace jAk := SlT.keep0 jAk k73
      replace jhl := Led.keep jhl k73 (fun _ _ f => f)
      replace jhK0 := Keep.tr jhK0 (Keep.ofNone k73)
      replace jR := Rfr.keep jR k73 (fun _ _ f => f)
      replace jV := VotT.keep jV k73 (fun _ _ f => f)
      replace hfenb := Keep.tr hfenb (Keep.ofNone k73)
      replace hk50 := Keep.tr hk50 (Keep.ofNone k73)
      have hb73lt := hb73.lt
      refine GI_static [13, 11, 14] [(4, pt b1), (6, pt b5), (7, pt b7), (10, pt b29), (11, nt ((k : Nat) : Int)), (13, pt b73), (46, .tuple #[.agg (Rfm.cells (decY ts x (tallyT ((svcK ts (tot xs) now r1 ⟨s, r1, []⟩ k).s) ((k : Nat) : Int)) (tot xs) now)).toArray, nt (decE ts x (tallyT ((svcK ts (tot xs) now r1 ⟨s, r1, []⟩ k).s) ((k : Nat) : Int)) (tot xs) now)]), (56, .agg (Rfm.cells (decY ts x (tallyT ((svcK ts (tot xs) now r1 ⟨s, r1, []⟩ k).s) ((k : Nat) : Int)) (tot xs) now)).toArray)] (by kernel_rfl) ?_
      refine GI_set (m := 45) (kd := true) 57 (.tmp 13) (.tmp 56) 0 (.agg (Rfm.cells (decY ts x (tallyT ((svcK ts (tot xs) now r1 ⟨s, r1, []⟩ k).s) ((k : Nat) : Int)) (tot xs) now)).toArray) (Rfm.cells (decY ts x (tallyT ((svcK ts (tot xs) now r1 ⟨s, r1, []⟩ k).s) ((k : Nat) : Int)) (tot xs) now)) none (by kernel_rfl) (by kernel_rfl) (by kernel_rfl) (by kernel_rfl) hb73 (by kernel_rfl) rfl (Rfm.len _) (Nat.le_of_ble_eq_true (by kernel_rfl)) (Rfm.one _) K74 (fun hh => absurd hh (by omega)) ?_
      intro w76 hb73_79 hk77 hz78 K80
      replace hb73_79 : Blk w76 b73 (Rfm.cells (decY ts x (tallyT ((svcK ts (tot xs) now r1 ⟨s, r1, []⟩ k).s) ((k : Nat) : Int)) (tot xs) now)) 57 := (Blk.eqL (Rfm.over _ _) hb73_79)
      have hsz81 := Keep.size hk77
      replace jr := jr.keep hk77 (by show ¬ (_ = _); omega)
      replace jb1 := jb1.keep hk77 (by show ¬ (_ = _); omega)
      replace jb3 := jb3.keep hk77 (by show ¬ (_ = _); omega)
      replace jb5 := jb5.keep hk77 (by show ¬ (_ = _); omega)
      replace jb7 := jb7.keep hk77 (by show ¬ (_ = _); omega)
      replace jb29 := jb29.keep hk77 (by show ¬ (_ = _); omega)
      replace jbs36 := jbs36.keep hk77 (by show ¬ (_ = _); omega)
      replace jbn37 := jbn37.keep hk77 (by show ¬ (_ = _); omega)
      replace hb41_46 := hb41_46.keep hk77 (by show ¬ (_ = _); omega)
      replace jA := SlT.keep jA hk77 (fun q hq hs => by have hs : q = b73 := hs; have g0 := hAr q hq; have g1 := ltjA q hq; omega)
      replace jA2 := SlT.keep jA2 hk77 (fun q hq hs => by have hs : q = b73 := hs; have g0 := owA2 q hq; have g1 := ltjA2 q hq; omega)
      replace jAk := SlT.keep jAk hk77 (fun q hq hs => by have hs : q = b73 := hs; have g0 := ownk q hq; have g1 := ltjAk q hq; omega)
      replace jhl := Led.keep jhl hk77 (fun q hq hs => by have hs : q = b73 := hs; have g0 := hlr q hq; have g1 := hGlt q hq; omega)
      replace jhK0 := Keep.fresh jhK0 hk77 (by intro i hi hs; first | exact hs | exact Or.inl hs | exact Or.inr hs | (exfalso; have hs2 : i = b73 := hs; omega))
      replace jR := Rfr.keep jR hk77 (fun q hq hs => by have hs : q = b73 := hs; have g0 := hHko q hq; have g1 := lt39 q hq; omega)
      replace jV := VotT.keep jV hk77 (fun q hq hs => by have hs : q = b73 := hs; have g0 := hFko q hq; have g1 := lt40 q hq; omega)
      replace hfenb := Keep.fresh hfenb hk77 (by intro i hi hs; have hs2 : i = b73 := hs; show _ ∨ _; omega)
      replace hk50 := Keep.fresh hk50 hk77 (by intro i hi hs; first | exact hs | exact Or.inl hs | exact Or.inr hs | (exfalso; have hs2 : i = b73 := hs; omega))
      refine GI_static [] [(4, pt b1), (6, pt b5), (7, pt b7), (10, pt b29), (11, nt ((k : Nat) : Int)), (13, pt b73), (14, nt (decE ts x (tallyT ((svcK ts (tot xs) now r1 ⟨s, r1, []⟩ k).s) ((k : Nat) : Int)) (tot xs) now))] (by kernel_rfl) ?_
      refine GI_end ?_
      exact X_join [(4, pt b1), (6, pt b5), (7, pt b7), (10, pt b29), (11, nt ((k : Nat) : Int)), (13, pt b73), (14, nt (decE ts x (tallyT ((svcK ts (tot xs) now r1 ⟨s, r1, []⟩ k).s) ((k : Nat) : Int)) (tot xs) now))] rfl ⟨b73, hb73_79, by omega, hk50, rfl⟩
     ·
      refine GI_cell 33 (.tmp 6) 0 (pt v) (some 49) (by kernel_rfl) (by kernel_rfl) (by kernel_rfl) qjb5 (fun f => f) (m := 1) (by kernel_rfl) rfl ?_
      refine GI_static [4, 5, 6, 12, 0, 1, 7, 8, 9, 10, 13, 11, 14] [(4, pt b1), (5, pt b3), (6, pt b5), (7, pt b7), (10, pt b29), (11, nt ((k : Nat) : Int)), (12, pt b41), (49, pt v), (50, nt ((k : Nat) : Int))] (by kernel_rfl) ?_
      refine GI_call { callee := (Callee.value (Operand.func 32)), args := #[(Operand.tmp 49), (Operand.tmp 50)], argTypes := #[33, 3] } 32 #[pt v, nt ((k : Nat) : Int)] (some 51) (by kernel_rfl) (by kernel_rfl) (by kernel_rfl) (by kernel_rfl) (tally_spec Fk v ((svcK ts (tot xs) now r1 ⟨s, r1, []⟩ k).s) ((k : Nat) : Int) _ (jV).1) ?_
      rintro _ w84 ⟨rfl, hk85⟩
      have K86 := K56.tr (Keep.ofNone hk85)
      refine ⟨_, rfl, K86, ?_⟩
      have hzK86 := Keep.size K86
      have hsz87 := Keep.size hk85
      replace jr := jr.keep hk85 (fun f => f)
      replace jb1 := jb1.keep hk85 (fun f => f)
      replace jb3 := jb3.keep hk85 (fun f => f)
      replace jb5 := jb5.keep hk85 (fun f => f)
      replace jb7 := jb7.keep hk85 (fun f => f)
      replace jb29 := jb29.keep hk85 (fun f => f)
      replace jbs36 := jbs36.keep hk85 (fun f => f)
      replace jbn37 := jbn37.keep hk85 (fun f => f)
      replace hb41_46 := hb41_46.keep hk85 (fun f => f)
      replace jA := SlT.keep0 jA hk85
      replace jA2 := SlT.keep0 jA2 hk85
      replace jAk := SlT.keep0 jAk hk85
      replace jhl := Led.keep jhl hk85 (fun _ _ f => f)
      replace jhK0 := Keep.tr jhK0 (Keep.ofNone hk85)
      replace jR := Rfr.keep jR hk85 (fun _ _ f => f)
      replace jV := VotT.keep jV hk85 (fun _ _ f => f)
      replace hfenb := Keep.tr hfenb (Keep.ofNone hk85)
      replace hk50 := Keep.tr hk50 (Keep.ofNone hk85)
      refine GI_cell 32 (.tmp 5) 0 (pt l) (some 52) (by kernel_rfl) (by kernel_rfl) (by kernel_rfl) qjb3 (fun f => f) (m := 1) (by kernel_rfl) rfl ?_
      refine GI_call { callee := (Callee.value (Operand.func 51)), args := #[(Operand.tmp 52)], argTypes := #[32] } 51 #[pt l] (some 53) (by kernel_rfl) (by kernel_rfl) (by kernel_rfl) (by kernel_rfl) (issued_spec G l xs cs _ jhl) ?_
      rintro _ w90 ⟨rfl, hk91⟩
      have K92 := K86.tr (Keep.ofNone hk91)
      refine ⟨_, rfl, K92, ?_⟩
      have hzK92 := Keep.size K92
      have hsz93 := Keep.size hk91
      replace jr := jr.keep hk91 (fun f => f)
      replace jb1 := jb1.keep hk91 (fun f => f)
      replace jb3 := jb3.keep hk91 (fun f => f)
      replace jb5 := jb5.keep hk91 (fun f => f)
      replace jb7 := jb7.keep hk91 (fun f => f)
      replace jb29 := jb29.keep hk91 (fun f => f)
      replace jbs36 := jbs36.keep hk91 (fun f => f)
      replace jbn37 := jbn37.keep hk91 (fun f => f)
      replace hb41_46 := hb41_46.keep hk91 (fun f => f)
      replace jA := SlT.keep0 jA hk91
      replace jA2 := SlT.keep0 jA2 hk91
      replace jAk := SlT.keep0 jAk hk91
      replace jhl := Led.keep jhl hk91 (fun _ _ f => f)
      replace jhK0 := Keep.tr jhK0 (Keep.ofNone hk91)
      replace jR := Rfr.keep jR hk91 (fun _ _ f => f)
      replace jV := VotT.keep jV hk91 (fun _ _ f => f)
      replace hfenb := Keep.tr hfenb (Keep.ofNone hk91)
      replace hk50 := Keep.tr hk50 (Keep.ofNone hk91)
      refine GI_alloc 57 (.agg (Rfm.cells Rfm.zero).toArray) (Rfm.cells Rfm.zero) (some 13) (by kernel_rfl) (by kernel_rfl) K92 (by kernel_rfl) (by kernel_rfl) ?_
      intro b94 w94 e94 hb94 k94 z94 K95
      have hsz96 := Keep.size k94
      replace jr := jr.keep k94 (fun f => f)
      replace jb1 := jb1.keep k94 (fun f => f)
      replace jb3 := jb3.keep k94 (fun f => f)
      replace jb5 := jb5.keep k94 (fun f => f)
      replace jb7 := jb7.keep k94 (fun f => f)
      replace jb29 := jb29.keep k94 (fun f => f)
      replace jbs36 := jbs36.keep k94 (fun f => f)
      replace jbn37 := jbn37.keep k94 (fun f => f)
      replace hb41_46 := hb41_46.keep k94 (fun f => f)
      replace jA := SlT.keep0 jA k94
      replace jA2 := SlT.keep0 jA2 k94
      replace jAk := SlT.keep0 jAk k94
      replace jhl := Led.keep jhl k94 (fun _ _ f => f)
      replace jhK0 := Keep.tr jhK0 (Keep.ofNone k94)
      replace jR := Rfr.keep jR k94 (fun _ _ f => f)
      replace jV := VotT.keep jV k94 (fun _ _ f => f)
      replace hfenb := Keep.tr hfenb (Keep.ofNone k94)
      replace hk50 := Keep.tr hk50 (Keep.ofNone k94)
      have hb94lt := hb94.lt
      refine GI_cell 34 (.tmp 4) 0 (pt r) (some 47) (by kernel_rfl) (by kernel_rfl) (by kernel_rfl) qjb1 (fun f => f) (m := 1) (by kernel_rfl) rfl ?_
      refine GI_agg 57 (.tmp 12) 0 (Rfm.cells x) (some 48) (by kernel_rfl) (by kernel_rfl) (by kernel_rfl) qhb41_46 (fun f => f) (m := 45) (by kernel_rfl) (take_all (Rfm.len _)) (Rfm.len _) ?_
      refine GI_cell 3 (.tmp 7) 0 (nt now) (some 54) (by kernel_rfl) (by kernel_rfl) (by kernel_rfl) qjb7 (fun f => f) (m := 1) (by kernel_rfl) rfl ?_
      refine GI_call { callee := (Callee.value (Operand.func 50)), args := #[(Operand.tmp 47), (Operand.tmp 48), (Operand.tmp 51), (Operand.tmp 53), (Operand.tmp 54)], argTypes := #[34, 57, 55, 3, 3] } 50 #[pt r, .agg (Rfm.cells x).toArray, .agg (Tly.cells (tallyT ((svcK ts (tot xs) now r1 ⟨s, r1, []⟩ k).s) ((k : Nat) : Int))).toArray, nt (tot xs), nt now] (some 55) (by kernel_rfl) (by kernel_rfl) (by kernel_rfl) (by kernel_rfl) (decides_spec Hk r g ts (svcK ts (tot xs) now r1 ⟨s, r1, []⟩ k).rs x (tallyT ((svcK ts (tot xs) now r1 ⟨s, r1, []⟩ k).s) ((k : Nat) : Int)) (tot xs) now _ jR hxt) ?_
      rintro _ w97 ⟨rfl, hk98⟩
      have K99 := K95.tr (Keep.ofNone hk98)
      refine ⟨_, rfl, K99, ?_⟩
      have hzK99 := Keep.size K99
      have hsz100 := Keep.size hk98
      replace jr := jr.keep hk98 (fun f => f)
      replace jb1 := jb1.keep hk98 (fun f => f)
      replace jb3 := jb3.keep hk98 (fun f => f)
      replace jb5 := jb5.keep hk98 (fun f => f)
      replace jb7 := jb7.keep hk98 (fun f => f)
      replace jb29 := jb29.keep hk98 (fun f => f)
      replace jbs36 := jbs36.keep hk98 (fun f => f)
      replace jbn37 := jbn37.keep hk98 (fun f => f)
      replace hb41_46 := hb41_46.keep hk98 (fun f => f)
      replace hb94 := hb94.keep hk98 (fun f => f)
      replace jA := SlT.keep0 jA hk98
      replace jA2 := SlT.keep0 jA2 hk98
      replace jAk := SlT.keep0 jAk hk98
      replace jhl := Led.keep jhl hk98 (fun _ _ f => f)
      replace jhK0 := Keep.tr jhK0 (Keep.ofNone hk98)
      replace jR := Rfr.keep jR hk98 (fun _ _ f => f)
      replace jV := VotT.keep jV hk98 (fun _ _ f => f)
      replace hfenb := Keep.tr hfenb (Keep.ofNone hk98)
      replace hk50 := Keep.tr hk50 (Keep.ofNone hk98)
      refine GI_static [13, 11, 14] [(4, pt b1), (6, pt b5), (7, pt b7), (10, pt b29), (11, nt ((k : Nat) : Int)), (13, pt b94), (46, .tuple #[.agg (Rfm.cells (decY ts x (tallyT ((svcK ts (tot xs) now r1 ⟨s, r1, []⟩ k).s) ((k : Nat) : Int)) (tot xs) now)).toArray, nt (decE ts x (tallyT ((svcK ts (tot xs) now r1 ⟨s, r1, []⟩ k).s) ((k : Nat) : Int)) (tot xs) now)]), (56, .agg (Rfm.cells (decY ts x (tallyT ((svcK ts (tot xs) now r1 ⟨s, r1, []⟩ k).s) ((k : Nat) : Int)) (tot xs) now)).toArray)] (by kernel_rfl) ?_
      refine GI_set (m := 45) (kd := true) 57 (.tmp 13) (.tmp 56) 0 (.agg (Rfm.cells (decY ts x (tallyT ((svcK ts (tot xs) now r1 ⟨s, r1, []⟩ k).s) ((k : Nat) : Int)) (tot xs) now)).toArray) (Rfm.cells (decY ts x (tallyT ((svcK ts (tot xs) now r1 ⟨s, r1, []⟩ k).s) ((k : Nat) : Int)) (tot xs) now)) none (by kernel_rfl) (by kernel_rfl) (by kernel_rfl) (by kernel_rfl) hb94 (by kernel_rfl) rfl (Rfm.len _) (Nat.le_of_ble_eq_true (by kernel_rfl)) (Rfm.one _) K99 (fun hh => absurd hh (by omega)) ?_
      intro w101 hb94_104 hk102 hz103 K105
      replace hb94_104 : Blk w101 b94 (Rfm.cells (decY ts x (tallyT ((svcK ts (tot xs) now r1 ⟨s, r1, []⟩ k).s) ((k : Nat) : Int)) (tot xs) now)) 57 := (Blk.eqL (Rfm.over _ _) hb94_104)
      have hsz106 := Keep.size hk102
      replace jr := jr.keep hk102 (by show ¬ (_ = _); omega)
      replace jb1 := jb1.keep hk102 (by show ¬ (_ = _); omega)
      replace jb3 := jb3.keep hk102 (by show ¬ (_ = _); omega)
      replace jb5 := jb5.keep hk102 (by show ¬ (_ = _); omega)
      replace jb7 := jb7.keep hk102 (by show ¬ (_ = _); omega)
      replace jb29 := jb29.keep hk102 (by show ¬ (_ = _); omega)
      replace jbs36 := jbs36.keep hk102 (by show ¬ (_ = _); omega)
      replace jbn37 := jbn37.keep hk102 (by show ¬ (_ = _); omega)
      replace hb41_46 := hb41_46.keep hk102 (by show ¬ (_ = _); omega)
      replace jA := SlT.keep jA hk102 (fun q hq hs => by have hs : q = b94 := hs; have g0 := hAr q hq; have g1 := ltjA q hq; omega)
      replace jA2 := SlT.keep jA2 hk102 (fun q hq hs => by have hs : q = b94 := hs; have g0 := owA2 q hq; have g1 := ltjA2 q hq; omega)
      replace jAk := SlT.keep jAk hk102 (fun q hq hs => by have hs : q = b94 := hs; have g0 := ownk q hq; have g1 := ltjAk q hq; omega)
      replace jhl := Led.keep jhl hk102 (fun q hq hs => by have hs : q = b94 := hs; have g0 := hlr q hq; have g1 := hGlt q hq; omega)
      replace jhK0 := Keep.fresh jhK0 hk102 (by intro i hi hs; first | exact hs | exact Or.inl hs | exact Or.inr hs | (exfalso; have hs2 : i = b94 := hs; omega))
      replace jR := Rfr.keep jR hk102 (fun q hq hs => by have hs : q = b94 := hs; have g0 := hHko q hq; have g1 := lt39 q hq; omega)
      replace jV := VotT.keep jV hk102 (fun q hq hs => by have hs : q = b94 := hs; have g0 := hFko q hq; have g1 := lt40 q hq; omega)
      replace hfenb := Keep.fresh hfenb hk102 (by intro i hi hs; have hs2 : i = b94 := hs; show _ ∨ _; omega)
      replace hk50 := Keep.fresh hk50 hk102 (by intro i hi hs; first | exact hs | exact Or.inl hs | exact Or.inr hs | (exfalso; have hs2 : i = b94 := hs; omega))
      refine GI_static [] [(4, pt b1), (6, pt b5), (7, pt b7), (10, pt b29), (11, nt ((k : Nat) : Int)), (13, pt b94), (14, nt (decE ts x (tallyT ((svcK ts (tot xs) now r1 ⟨s, r1, []⟩ k).s) ((k : Nat) : Int)) (tot xs) now))] (by kernel_rfl) ?_
      refine GI_end ?_
      exact X_join [(4, pt b1), (6, pt b5), (7, pt b7), (10, pt b29), (11, nt ((k : Nat) : Int)), (13, pt b94), (14, nt (decE ts x (tallyT ((svcK ts (tot xs) now r1 ⟨s, r1, []⟩ k).s) ((k : Nat) : Int)) (tot xs) now))] rfl ⟨b94, hb94_104, by omega, hk50, rfl⟩
     ·
      refine GI_cell 33 (.tmp 6) 0 (pt v) (some 49) (by kernel_rfl) (by kernel_rfl) (by kernel_rfl) qjb5 (fun f => f) (m := 1) (by kernel_rfl) rfl ?_
      refine GI_static [4, 12, 5, 6, 0, 1, 7, 8, 9, 10, 13, 11, 14] [(4, pt b1), (5, pt b3), (6, pt b5), (7, pt b7), (10, pt b29), (11, nt ((k : Nat) : Int)), (12, pt b41), (49, pt v), (50, nt ((k : Nat) : Int))] (by kernel_rfl) ?_
      refine GI_call { callee := (Callee.value (Operand.func 32)), args := #[(Operand.tmp 49), (Operand.tmp 50)], argTypes := #[33, 3] } 32 #[pt v, nt ((k : Nat) : Int)] (some 51) (by kernel_rfl) (by kernel_rfl) (by kernel_rfl) (by kernel_rfl) (tally_spec Fk v ((svcK ts (tot xs) now r1 ⟨s, r1, []⟩ k).s) ((k : Nat) : Int) _ (jV).1) ?_
      rintro _ w109 ⟨rfl, hk110⟩
      have K111 := K56.tr (Keep.ofNone hk110)
      refine ⟨_, rfl, K111, ?_⟩
      have hzK111 := Keep.size K111
      have hsz112 := Keep.size hk110
      replace jr := jr.keep hk110 (fun f => f)
      replace jb1 := jb1.keep hk110 (fun f => f)
      replace jb3 := jb3.keep hk110 (fun f => f)
      replace jb5 := jb5.keep hk110 (fun f => f)
      replace jb7 := jb7.keep hk110 (fun f => f)
      replace jb29 := jb29.keep hk110 (fun f => f)
      replace jbs36 := jbs36.keep hk110 (fun f => f)
      replace jbn37 := jbn37.keep hk110 (fun f => f)
      replace hb41_46 := hb41_46.keep hk110 (fun f => f)
      replace jA := SlT.keep0 jA hk110
      replace jA2 := SlT.keep0 jA2 hk110
      replace jAk := SlT.keep0 jAk hk110
      replace jhl := Led.keep jhl hk110 (fun _ _ f => f)
      replace jhK0 := Keep.tr jhK0 (Keep.ofNone hk110)
      replace jR := Rfr.keep jR hk110 (fun _ _ f => f)
      replace jV := VotT.keep jV hk110 (fun _ _ f => f)
      replace hfenb := Keep.tr hfenb (Keep.ofNone hk110)
      replace hk50 := Keep.tr hk50 (Keep.ofNone hk110)
      refine GI_alloc 57 (.agg (Rfm.cells Rfm.zero).toArray) (Rfm.cells Rfm.zero) (some 13) (by kernel_rfl) (by kernel_rfl) K111 (by kernel_rfl) (by kernel_rfl) ?_
      intro b113 w113 e113 hb113 k113 z113 K114
      have hsz115 := Keep.size k113
      replace jr := jr.keep k113 (fun f => f)
      replace jb1 := jb1.keep k113 (fun f => f)
      replace jb3 := jb3.keep k113 (fun f => f)
      replace jb5 := jb5.keep k113 (fun f => f)
      replace jb7 := jb7.keep k113 (fun f => f)
      replace jb29 := jb29.keep k113 (fun f => f)
      replace jbs36 := jbs36.keep k113 (fun f => f)
      replace jbn37 := jbn37.keep k113 (fun f => f)
      replace hb41_46 := hb41_46.keep k113 (fun f => f)
      replace jA := SlT.keep0 jA k113
      replace jA2 := SlT.keep0 jA2 k113
      replace jAk := SlT.keep0 jAk k113
      replace jhl := Led.keep jhl k113 (fun _ _ f => f)
      replace jhK0 := Keep.tr jhK0 (Keep.ofNone k113)
      replace jR := Rfr.keep jR k113 (fun _ _ f => f)
      replace jV := VotT.keep jV k113 (fun _ _ f => f)
      replace hfenb := Keep.tr hfenb (Keep.ofNone k113)
      replace hk50 := Keep.tr hk50 (Keep.ofNone k113)
      have hb113lt := hb113.lt
      refine GI_cell 32 (.tmp 5) 0 (pt l) (some 52) (by kernel_rfl) (by kernel_rfl) (by kernel_rfl) qjb3 (fun f => f) (m := 1) (by kernel_rfl) rfl ?_
      refine GI_call { callee := (Callee.value (Operand.func 51)), args := #[(Operand.tmp 52)], argTypes := #[32] } 51 #[pt l] (some 53) (by kernel_rfl) (by kernel_rfl) (by kernel_rfl) (by kernel_rfl) (issued_spec G l xs cs _ jhl) ?_
      rintro _ w118 ⟨rfl, hk119⟩
      have K120 := K114.tr (Keep.ofNone hk119)
      refine ⟨_, rfl, K120, ?_⟩
      have hzK120 := Keep.size K120
      have hsz121 := Keep.size hk119
      replace jr := jr.keep hk119 (fun f => f)
      replace jb1 := jb1.keep hk119 (fun f => f)
      replace jb3 := jb3.keep hk119 (fun f => f)
      replace jb5 := jb5.keep hk119 (fun f => f)
      replace jb7 := jb7.keep hk119 (fun f => f)
      replace jb29 := jb29.keep hk119 (fun f => f)
      replace jbs36 := jbs36.keep hk119 (fun f => f)
      replace jbn37 := jbn37.keep hk119 (fun f => f)
      replace hb41_46 := hb41_46.keep hk119 (fun f => f)
      replace hb113 := hb113.keep hk119 (fun f => f)
      replace jA := SlT.keep0 jA hk119
      replace jA2 := SlT.keep0 jA2 hk119
      replace jAk := SlT.keep0 jAk hk119
      replace jhl := Led.keep jhl hk119 (fun _ _ f => f)
      replace jhK0 := Keep.tr jhK0 (Keep.ofNone hk119)
      replace jR := Rfr.keep jR hk119 (fun _ _ f => f)
      replace jV := VotT.keep jV hk119 (fun _ _ f => f)
      replace hfenb := Keep.tr hfenb (Keep.ofNone hk119)
      replace hk50 := Keep.tr hk50 (Keep.ofNone hk119)
      refine GI_cell 34 (.tmp 4) 0 (pt r) (some 47) (by kernel_rfl) (by kernel_rfl) (by kernel_rfl) qjb1 (fun f => f) (m := 1) (by kernel_rfl) rfl ?_
      refine GI_agg 57 (.tmp 12) 0 (Rfm.cells x) (some 48) (by kernel_rfl) (by kernel_rfl) (by kernel_rfl) qhb41_46 (fun f => f) (m := 45) (by kernel_rfl) (take_all (Rfm.len _)) (Rfm.len _) ?_
      refine GI_cell 3 (.tmp 7) 0 (nt now) (some 54) (by kernel_rfl) (by kernel_rfl) (by kernel_rfl) qjb7 (fun f => f) (m := 1) (by kernel_rfl) rfl ?_
      refine GI_call { callee := (Callee.value (Operand.func 50)), args := #[(Operand.tmp 47), (Operand.tmp 48), (Operand.tmp 51), (Operand.tmp 53), (Operand.tmp 54)], argTypes := #[34, 57, 55, 3, 3] } 50 #[pt r, .agg (Rfm.cells x).toArray, .agg (Tly.cells (tallyT ((svcK ts (tot xs) now r1 ⟨s, r1, []⟩ k).s) ((k : Nat) : Int))).toArray, nt (tot xs), nt now] (some 55) (by kernel_rfl) (by kernel_rfl) (by kernel_rfl) (by kernel_rfl) (decides_spec Hk r g ts (svcK ts (tot xs) now r1 ⟨s, r1, []⟩ k).rs x (tallyT ((svcK ts (tot xs) now r1 ⟨s, r1, []⟩ k).s) ((k : Nat) : Int)) (tot xs) now _ jR hxt) ?_
      rintro _ w122 ⟨rfl, hk123⟩
      have K124 := K120.tr (Keep.ofNone hk123)
      refine ⟨_, rfl, K124, ?_⟩
      have hzK124 := Keep.size K124
      have hsz125 := Keep.size hk123
      replace jr := jr.keep hk123 (fun f => f)
      replace jb1 := jb1.keep hk123 (fun f => f)
      replace jb3 := jb3.keep hk123 (fun f => f)
      replace jb5 := jb5.keep hk123 (fun f => f)
      replace jb7 := jb7.keep hk123 (fun f => f)
      replace jb29 := jb29.keep hk123 (fun f => f)
      replace jbs36 := jbs36.keep hk123 (fun f => f)
      replace jbn37 := jbn37.keep hk123 (fun f => f)
      replace hb41_46 := hb41_46.keep hk123 (fun f => f)
      replace hb113 := hb113.keep hk123 (fun f => f)
      replace jA := SlT.keep0 jA hk123
      replace jA2 := SlT.keep0 jA2 hk123
      replace jAk := SlT.keep0 jAk hk123
      replace jhl := Led.keep jhl hk123 (fun _ _ f => f)
      replace jhK0 := Keep.tr jhK0 (Keep.ofNone hk123)
      replace jR := Rfr.keep jR hk123 (fun _ _ f => f)
      replace jV := VotT.keep jV hk123 (fun _ _ f => f)
      replace hfenb := Keep.tr hfenb (Keep.ofNone hk123)
      replace hk50 := Keep.tr hk50 (Keep.ofNone hk123)
      refine GI_static [13, 11, 14] [(4, pt b1), (6, pt b5), (7, pt b7), (10, pt b29), (11, nt ((k : Nat) : Int)), (13, pt b113), (46, .tuple #[.agg (Rfm.cells (decY ts x (tallyT ((svcK ts (tot xs) now r1 ⟨s, r1, []⟩ k).s) ((k : Nat) : Int)) (tot xs) now)).toArray, nt (decE ts x (tallyT ((svcK ts (tot xs) now r1 ⟨s, r1, []⟩ k).s) ((k : Nat) : Int)) (tot xs) now)]), (56, .agg (Rfm.cells (decY ts x (tallyT ((svcK ts (tot xs) now r1 ⟨s, r1, []⟩ k).s) ((k : Nat) : Int)) (tot xs) now)).toArray)] (by kernel_rfl) ?_
      refine GI_set (m := 45) (kd := true) 57 (.tmp 13) (.tmp 56) 0 (.agg (Rfm.cells (decY ts x (tallyT ((svcK ts (tot xs) now r1 ⟨s, r1, []⟩ k).s) ((k : Nat) : Int)) (tot xs) now)).toArray) (Rfm.cells (decY ts x (tallyT ((svcK ts (tot xs) now r1 ⟨s, r1, []⟩ k).s) ((k : Nat) : Int)) (tot xs) now)) none (by kernel_rfl) (by kernel_rfl) (by kernel_rfl) (by kernel_rfl) hb113 (by kernel_rfl) rfl (Rfm.len _) (Nat.le_of_ble_eq_true (by kernel_rfl)) (Rfm.one _) K124 (fun hh => absurd hh (by omega)) ?_
      intro w126 hb113_129 hk127 hz128 K130
      replace hb113_129 : Blk w126 b113 (Rfm.cells (decY ts x (tallyT ((svcK ts (tot xs) now r1 ⟨s, r1, []⟩ k).s) ((k : Nat) : Int)) (tot xs) now)) 57 := (Blk.eqL (Rfm.over _ _) hb113_129)
      have hsz131 := Keep.size hk127
      replace jr := jr.keep hk127 (by show ¬ (_ = _); omega)
      replace jb1 := jb1.keep hk127 (by show ¬ (_ = _); omega)
      replace jb3 := jb3.keep hk127 (by show ¬ (_ = _); omega)
      replace jb5 := jb5.keep hk127 (by show ¬ (_ = _); omega)
      replace jb7 := jb7.keep hk127 (by show ¬ (_ = _); omega)
      replace jb29 := jb29.keep hk127 (by show ¬ (_ = _); omega)
      replace jbs36 := jbs36.keep hk127 (by show ¬ (_ = _); omega)
      replace jbn37 := jbn37.keep hk127 (by show ¬ (_ = _); omega)
      replace hb41_46 := hb41_46.keep hk127 (by show ¬ (_ = _); omega)
      replace jA := SlT.keep jA hk127 (fun q hq hs => by have hs : q = b113 := hs; have g0 := hAr q hq; have g1 := ltjA q hq; omega)
      replace jA2 := SlT.keep jA2 hk127 (fun q hq hs => by have hs : q = b113 := hs; have g0 := owA2 q hq; have g1 := ltjA2 q hq; omega)
      replace jAk := SlT.keep jAk hk127 (fun q hq hs => by have hs : q = b113 := hs; have g0 := ownk q hq; have g1 := ltjAk q hq; omega)
      replace jhl := Led.keep jhl hk127 (fun q hq hs => by have hs : q = b113 := hs; have g0 := hlr q hq; have g1 := hGlt q hq; omega)
      replace jhK0 := Keep.fresh jhK0 hk127 (by intro i hi hs; first | exact hs | exact Or.inl hs | exact Or.inr hs | (exfalso; have hs2 : i = b113 := hs; omega))
      replace jR := Rfr.keep jR hk127 (fun q hq hs => by have hs : q = b113 := hs; have g0 := hHko q hq; have g1 := lt39 q hq; omega)
      replace jV := VotT.keep jV hk127 (fun q hq hs => by have hs : q = b113 := hs; have g0 := hFko q hq; have g1 := lt40 q hq; omega)
      replace hfenb := Keep.fresh hfenb hk127 (by intro i hi hs; have hs2 : i = b113 := hs; show _ ∨ _; omega)
      replace hk50 := Keep.fresh hk50 hk127 (by intro i hi hs; first | exact hs | exact Or.inl hs | exact Or.inr hs | (exfalso; have hs2 : i = b113 := hs; omega))
      refine GI_static [] [(4, pt b1), (6, pt b5), (7, pt b7), (10, pt b29), (11, nt ((k : Nat) : Int)), (13, pt b113), (14, nt (decE ts x (tallyT ((svcK ts (tot xs) now r1 ⟨s, r1, []⟩ k).s) ((k : Nat) : Int)) (tot xs) now))] (by kernel_rfl) ?_
      refine GI_end ?_
      exact X_join [(4, pt b1), (6, pt b5), (7, pt b7), (10, pt b29), (11, nt ((k : Nat) : Int)), (13, pt b113), (14, nt (decE ts x (tallyT ((svcK ts (tot xs) now r1 ⟨s, r1, []⟩ k).s) ((k : Nat) : Int)) (tot xs) now))] rfl ⟨b113, hb113_129, by omega, hk50, rfl⟩
     ·
      refine GI_alloc 57 (.agg (Rfm.cells Rfm.zero).toArray) (Rfm.cells Rfm.zero) (some 13) (by kernel_rfl) (by kernel_rfl) K56 (by kernel_rfl) (by kernel_rfl) ?_
      intro b132 w132 e132 hb132 k132 z132 K133
      have hsz134 := Keep.size k132
      replace jr := jr.keep k132 (fun f => f)
      replace jb1 := jb1.keep k132 (fun f => f)
      replace jb3 := jb3.keep k132 (fun f => f)
      replace jb5 := jb5.keep k132 (fun f => f)
      replace jb7 := jb7.keep k132 (fun f => f)
      replace jb29 := jb29.keep k132 (fun f => f)
      replace jbs36 := jbs36.keep k132 (fun f => f)
      replace jbn37 := jbn37.keep k132 (fun f => f)
      replace hb41_46 := hb41_46.keep k132 (fun f => f)
      replace jA := SlT.keep0 jA k132
      replace jA2 := SlT.keep0 jA2 k132
      replace jAk := SlT.keep0 jAk k132
      replace jhl := Led.keep jhl k132 (fun _ _ f => f)
      replace jhK0 := Keep.tr jhK0 (Keep.ofNone k132)
      replace jR := Rfr.keep jR k132 (fun _ _ f => f)
      replace jV := VotT.keep jV k132 (fun _ _ f => f)
      replace hfenb := Keep.tr hfenb (Keep.ofNone k132)
      replace hk50 := Keep.tr hk50 (Keep.ofNone k132)
      have hb132lt := hb132.lt
      refine GI_cell 33 (.tmp 6) 0 (pt v) (some 49) (by kernel_rfl) (by kernel_rfl) (by kernel_rfl) qjb5 (fun f => f) (m := 1) (by kernel_rfl) rfl ?_
      refine GI_static [4, 5, 6, 0, 1, 7, 8, 9, 10, 13, 11, 14] [(4, pt b1), (5, pt b3), (6, pt b5), (7, pt b7), (10, pt b29), (11, nt ((k : Nat) : Int)), (12, pt b41), (13, pt b132), (49, pt v), (50, nt ((k : Nat) : Int))] (by kernel_rfl) ?_
      refine GI_call { callee := (Callee.value (Operand.func 32)), args := #[(Operand.tmp 49), (Operand.tmp 50)], argTypes := #[33, 3] } 32 #[pt v, nt ((k : Nat) : Int)] (some 51) (by kernel_rfl) (by kernel_rfl) (by kernel_rfl) (by kernel_rfl) (tally_spec Fk v ((svcK ts (tot xs) now r1 ⟨s, r1, []⟩ k).s) ((k : Nat) : Int) _ (jV).1) ?_
      rintro _ w137 ⟨rfl, hk138⟩
      have K139 := K133.tr (Keep.ofNone hk138)
      refine ⟨_, rfl, K139, ?_⟩
      have hzK139 := Keep.size K139
      have hsz140 := Keep.size hk138
      replace jr := jr.keep hk138 (fun f => f)
      replace jb1 := jb1.keep hk138 (fun f => f)
      replace jb3 := jb3.keep hk138 (fun f => f)
      replace jb5 := jb5.keep hk138 (fun f => f)
      replace jb7 := jb7.keep hk138 (fun f => f)
      replace jb29 := jb29.keep hk138 (fun f => f)
      replace jbs36 := jbs36.keep hk138 (fun f => f)
      replace jbn37 := jbn37.keep hk138 (fun f => f)
      replace hb41_46 := hb41_46.keep hk138 (fun f => f)
      replace hb132 := hb132.keep hk138 (fun f => f)
      replace jA := SlT.keep0 jA hk138
      replace jA2 := SlT.keep0 jA2 hk138
      replace jAk := SlT.keep0 jAk hk138
      replace jhl := Led.keep jhl hk138 (fun _ _ f => f)
      replace jhK0 := Keep.tr jhK0 (Keep.ofNone hk138)
      replace jR := Rfr.keep jR hk138 (fun _ _ f => f)
      replace jV := VotT.keep jV hk138 (fun _ _ f => f)
      replace hfenb := Keep.tr hfenb (Keep.ofNone hk138)
      replace hk50 := Keep.tr hk50 (Keep.ofNone hk138)
      refine GI_cell 32 (.tmp 5) 0 (pt l) (some 52) (by kernel_rfl) (by kernel_rfl) (by kernel_rfl) qjb3 (fun f => f) (m := 1) (by kernel_rfl) rfl ?_
      refine GI_call { callee := (Callee.value (Operand.func 51)), args := #[(Operand.tmp 52)], argTypes := #[32] } 51 #[pt l] (some 53) (by kernel_rfl) (by kernel_rfl) (by kernel_rfl) (by kernel_rfl) (issued_spec G l xs cs _ jhl) ?_
      rintro _ w143 ⟨rfl, hk144⟩
      have K145 := K139.tr (Keep.ofNone hk144)
      refine ⟨_, rfl, K145, ?_⟩
      have hzK145 := Keep.size K145
      have hsz146 := Keep.size hk144
      replace jr := jr.keep hk144 (fun f => f)
      replace jb1 := jb1.keep hk144 (fun f => f)
      replace jb3 := jb3.keep hk144 (fun f => f)
      replace jb5 := jb5.keep hk144 (fun f => f)
      replace jb7 := jb7.keep hk144 (fun f => f)
      replace jb29 := jb29.keep hk144 (fun f => f)
      replace jbs36 := jbs36.keep hk144 (fun f => f)
      replace jbn37 := jbn37.keep hk144 (fun f => f)
      replace hb41_46 := hb41_46.keep hk144 (fun f => f)
      replace hb132 := hb132.keep hk144 (fun f => f)
      replace jA := SlT.keep0 jA hk144
      replace jA2 := SlT.keep0 jA2 hk144
      replace jAk := SlT.keep0 jAk hk144
      replace jhl := Led.keep jhl hk144 (fun _ _ f => f)
      replace jhK0 := Keep.tr jhK0 (Keep.ofNone hk144)
      replace jR := Rfr.keep jR hk144 (fun _ _ f => f)
      replace jV := VotT.keep jV hk144 (fun _ _ f => f)
      replace hfenb := Keep.tr hfenb (Keep.ofNone hk144)
      replace hk50 := Keep.tr hk50 (Keep.ofNone hk144)
      refine GI_cell 34 (.tmp 4) 0 (pt r) (some 47) (by kernel_rfl) (by kernel_rfl) (by kernel_rfl) qjb1 (fun f => f) (m := 1) (by kernel_rfl) rfl ?_
      refine GI_agg 57 (.tmp 12) 0 (Rfm.cells x) (some 48) (by kernel_rfl) (by kernel_rfl) (by kernel_rfl) qhb41_46 (fun f => f) (m := 45) (by kernel_rfl) (take_all (Rfm.len _)) (Rfm.len _) ?_
      refine GI_cell 3 (.tmp 7) 0 (nt now) (some 54) (by kernel_rfl) (by kernel_rfl) (by kernel_rfl) qjb7 (fun f => f) (m := 1) (by kernel_rfl) rfl ?_
      refine GI_call { callee := (Callee.value (Operand.func 50)), args := #[(Operand.tmp 47), (Operand.tmp 48), (Operand.tmp 51), (Operand.tmp 53), (Operand.tmp 54)], argTypes := #[34, 57, 55, 3, 3] } 50 #[pt r, .agg (Rfm.cells x).toArray, .agg (Tly.cells (tallyT ((svcK ts (tot xs) now r1 ⟨s, r1, []⟩ k).s) ((k : Nat) : Int))).toArray, nt (tot xs), nt now] (some 55) (by kernel_rfl) (by kernel_rfl) (by kernel_rfl) (by kernel_rfl) (decides_spec Hk r g ts (svcK ts (tot xs) now r1 ⟨s, r1, []⟩ k).rs x (tallyT ((svcK ts (tot xs) now r1 ⟨s, r1, []⟩ k).s) ((k : Nat) : Int)) (tot xs) now _ jR hxt) ?_
      rintro _ w147 ⟨rfl, hk148⟩
      have K149 := K145.tr (Keep.ofNone hk148)
      refine ⟨_, rfl, K149, ?_⟩
      have hzK149 := Keep.size K149
      have hsz150 := Keep.size hk148
      replace jr := jr.keep hk148 (fun f => f)
      replace jb1 := jb1.keep hk148 (fun f => f)
      replace jb3 := jb3.keep hk148 (fun f => f)
      replace jb5 := jb5.keep hk148 (fun f => f)
      replace jb7 := jb7.keep hk148 (fun f => f)
      replace jb29 := jb29.keep hk148 (fun f => f)
      replace jbs36 := jbs36.keep hk148 (fun f => f)
      replace jbn37 := jbn37.keep hk148 (fun f => f)
      replace hb41_46 := hb41_46.keep hk148 (fun f => f)
      replace hb132 := hb132.keep hk148 (fun f => f)
      replace jA := SlT.keep0 jA hk148
      replace jA2 := SlT.keep0 jA2 hk148
      replace jAk := SlT.keep0 jAk hk148
      replace jhl := Led.keep jhl hk148 (fun _ _ f => f)
      replace jhK0 := Keep.tr jhK0 (Keep.ofNone hk148)
      replace jR := Rfr.keep jR hk148 (fun _ _ f => f)
      replace jV := VotT.keep jV hk148 (fun _ _ f => f)
      replace hfenb := Keep.tr hfenb (Keep.ofNone hk148)
      replace hk50 := Keep.tr hk50 (Keep.ofNone hk148)
      refine GI_static [13, 11, 14] [(4, pt b1), (6, pt b5), (7, pt b7), (10, pt b29), (11, nt ((k : Nat) : Int)), (13, pt b132), (46, .tuple #[.agg (Rfm.cells (decY ts x (tallyT ((svcK ts (tot xs) now r1 ⟨s, r1, []⟩ k).s) ((k : Nat) : Int)) (tot xs) now)).toArray, nt (decE ts x (tallyT ((svcK ts (tot xs) now r1 ⟨s, r1, []⟩ k).s) ((k : Nat) : Int)) (tot xs) now)]), (56, .agg (Rfm.cells (decY ts x (tallyT ((svcK ts (tot xs) now r1 ⟨s, r1, []⟩ k).s) ((k : Nat) : Int)) (tot xs) now)).toArray)] (by kernel_rfl) ?_
      refine GI_set (m := 45) (kd := true) 57 (.tmp 13) (.tmp 56) 0 (.agg (Rfm.cells (decY ts x (tallyT ((svcK ts (tot xs) now r1 ⟨s, r1, []⟩ k).s) ((k : Nat) : Int)) (tot xs) now)).toArray) (Rfm.cells (decY ts x (tallyT ((svcK ts (tot xs) now r1 ⟨s, r1, []⟩ k).s) ((k : Nat) : Int)) (tot xs) now)) none (by kernel_rfl) (by kernel_rfl) (by kernel_rfl) (by kernel_rfl) hb132 (by kernel_rfl) rfl (Rfm.len _) (Nat.le_of_ble_eq_true (by kernel_rfl)) (Rfm.one _) K149 (fun hh => absurd hh (by omega)) ?_
      intro w151 hb132_154 hk152 hz153 K155
      replace hb132_154 : Blk w151 b132 (Rfm.cells (decY ts x (tallyT ((svcK ts (tot xs) now r1 ⟨s, r1, []⟩ k).s) ((k : Nat) : Int)) (tot xs) now)) 57 := (Blk.eqL (Rfm.over _ _) hb132_154)
      have hsz156 := Keep.size hk152
      replace jr := jr.keep hk152 (by show ¬ (_ = _); omega)
      replace jb1 := jb1.keep hk152 (by show ¬ (_ = _); omega)
      replace jb3 := jb3.keep hk152 (by show ¬ (_ = _); omega)
      replace jb5 := jb5.keep hk152 (by show ¬ (_ = _); omega)
      replace jb7 := jb7.keep hk152 (by show ¬ (_ = _); omega)
      replace jb29 := jb29.keep hk152 (by show ¬ (_ = _); omega)
      replace jbs36 := jbs36.keep hk152 (by show ¬ (_ = _); omega)
      replace jbn37 := jbn37.keep hk152 (by show ¬ (_ = _); omega)
      replace hb41_46 := hb41_46.keep hk152 (by show ¬ (_ = _); omega)
      replace jA := SlT.keep jA hk152 (fun q hq hs => by have hs : q = b132 := hs; have g0 := hAr q hq; have g1 := ltjA q hq; omega)
      replace jA2 := SlT.keep jA2 hk152 (fun q hq hs => by have hs : q = b132 := hs; have g0 := owA2 q hq; have g1 := ltjA2 q hq; omega)
      replace jAk := SlT.keep jAk hk152 (fun q hq hs => by have hs : q = b132 := hs; have g0 := ownk q hq; have g1 := ltjAk q hq; omega)
      replace jhl := Led.keep jhl hk152 (fun q hq hs => by have hs : q = b132 := hs; have g0 := hlr q hq; have g1 := hGlt q hq; omega)
      replace jhK0 := Keep.fresh jhK0 hk152 (by intro i hi hs; first | exact hs | exact Or.inl hs | exact Or.inr hs | (exfalso; have hs2 : i = b132 := hs; omega))
      replace jR := Rfr.keep jR hk152 (fun q hq hs => by have hs : q = b132 := hs; have g0 := hHko q hq; have g1 := lt39 q hq; omega)
      replace jV := VotT.keep jV hk152 (fun q hq hs => by have hs : q = b132 := hs; have g0 := hFko q hq; have g1 := lt40 q hq; omega)
      replace hfenb := Keep.fresh hfenb hk152 (by intro i hi hs; have hs2 : i = b132 := hs; show _ ∨ _; omega)
      replace hk50 := Keep.fresh hk50 hk152 (by intro i hi hs; first | exact hs | exact Or.inl hs | exact Or.inr hs | (exfalso; have hs2 : i = b132 := hs; omega))
      refine GI_static [] [(4, pt b1), (6, pt b5), (7, pt b7), (10, pt b29), (11, nt ((k : Nat) : Int)), (13, pt b132), (14, nt (decE ts x (tallyT ((svcK ts (tot xs) now r1 ⟨s, r1, []⟩ k).s) ((k : Nat) : Int)) (tot xs) now))] (by kernel_rfl) ?_
      refine GI_end ?_
      exact X_join [(4, pt b1), (6, pt b5), (7, pt b7), (10, pt b29), (11, nt ((k : Nat) : Int)), (13, pt b132), (14, nt (decE ts x (tallyT ((svcK ts (tot xs) now r1 ⟨s, r1, []⟩ k).s) ((k : Nat) : Int)) (tot xs) now))] rfl ⟨b132, hb132_154, by omega, hk50, rfl⟩
    ·
     rintro w157 _ ⟨b13, hb13, hb13g, hk158, rfl⟩
     have hsz159 := Keep.size hk158
     replace jr := jr.keep hk158 (fun f => f)
     replace jb1 := jb1.keep hk158 (fun f => f)
     replace jb3 := jb3.keep hk158 (fun f => f)
     replace jb5 := jb5.keep hk158 (fun f => f)
     replace jb7 := jb7.keep hk158 (fun f => f)
     replace jb29 := jb29.keep hk158 (fun f => f)
     replace jbs36 := jbs36.keep hk158 (fun f => f)
     replace jbn37 := jbn37.keep hk158 (fun f => f)
     replace hb41_46 := hb41_46.keep hk158 (fun f => f)
     replace jA := SlT.keep0 jA hk158
     replace jA2 := SlT.keep0 jA2 hk158
     replace jAk := SlT.keep0 jAk hk158
     replace jhl := Led.keep jhl hk158 (fun _ _ f => f)
     replace jhK0 := Keep.tr jhK0 (Keep.ofNone hk158)
     replace jR := Rfr.keep jR hk158 (fun _ _ f => f)
     replace jV := VotT.keep jV hk158 (fun _ _ f => f)
     replace hfenb := Keep.tr hfenb (Keep.ofNone hk158)
     have hb13lt := hb13.lt
     refine V_seq ?_
     refine V_draws (acts [6]) none_ [[0, 1, 2, 3, 4, 5, 6]] (by kernel_rfl) (by repeat first | exact (by first | exact sure_postM | exact sure_rQ2 | exact sure_no) | refine sure_then ?_ | refine sure_block ?_ | refine sure_join ?_) (by kernel_rfl) ?_
     intro w161 hk160 he162 L hL163
     have hsz164 := Keep.size hk160
     replace jr := jr.keep hk160 (fun f => f)
     replace jb1 := jb1.keep hk160 (fun f => f)
     replace jb3 := jb3.keep hk160 (fun f => f)
     replace jb5 := jb5.keep hk160 (fun f => f)
     replace jb7 := jb7.keep hk160 (fun f => f)
     replace jb29 := jb29.keep hk160 (fun f => f)
     replace jbs36 := jbs36.keep hk160 (fun f => f)
     replace jbn37 := jbn37.keep hk160 (fun f => f)
     replace hb41_46 := hb41_46.keep hk160 (fun f => f)
     replace hb13 := hb13.keep hk160 (fun f => f)
     replace jA := SlT.keep0 jA hk160
     replace jA2 := SlT.keep0 jA2 hk160
     replace jAk := SlT.keep0 jAk hk160
     replace jhl := Led.keep jhl hk160 (fun _ _ f => f)
     replace jhK0 := Keep.tr jhK0 (Keep.ofNone hk160)
     replace jR := Rfr.keep jR hk160 (fun _ _ f => f)
     replace jV := VotT.keep jV hk160 (fun _ _ f => f)
     replace hfenb := Keep.tr hfenb (Keep.ofNone hk160)
     have qjr := jr
     have qjb1 := jb1
     have qjb3 := jb3
     have qjb5 := jb5
     have qjb7 := jb7
     have qjb29 := jb29
     have qjbs36 := jbs36
     have qjbn37 := jbn37
     have qhb41_46 := hb41_46
     have qhb13 := hb13
     have K165 : Keep none_ w161 w161 := Keep.refl _ _
     obtain rfl := List.mem_singleton.1 hL163
     refine GI_cell 34 (.tmp 4) 0 (pt r) (some 58) (by kernel_rfl) (by kernel_rfl) (by kernel_rfl) qjb1 (fun f => f) (m := 1) (by kernel_rfl) rfl ?_
     refine GI_static [3, 4, 5, 6] [(4, pt b1), (6, pt b5), (7, pt b7), (10, pt b29), (11, nt ((k : Nat) : Int)), (13, pt b13), (14, nt (decE ts x (tallyT ((svcK ts (tot xs) now r1 ⟨s, r1, []⟩ k).s) ((k : Nat) : Int)) (tot xs) now)), (60, .pointer (some ⟨r, 1, none⟩))] (by kernel_rfl) ?_
     refine GI_cell 95 (.tmp 60) 1 (pt g) (some 61) (by kernel_rfl) (by kernel_rfl) (by kernel_rfl) qjr (fun f => f) (m := 1) (by kernel_rfl) rfl ?_
     refine GI_static [5, 6] [(4, pt b1), (6, pt b5), (7, pt b7), (10, pt b29), (11, nt ((k : Nat) : Int)), (13, pt b13), (14, nt (decE ts x (tallyT ((svcK ts (tot xs) now r1 ⟨s, r1, []⟩ k).s) ((k : Nat) : Int)) (tot xs) now)), (61, pt g), (62, nt ((k : Nat) : Int))] (by kernel_rfl) ?_
     refine GI_agg 57 (.tmp 13) 0 (Rfm.cells (decY ts x (tallyT ((svcK ts (tot xs) now r1 ⟨s, r1, []⟩ k).s) ((k : Nat) : Int)) (tot xs) now)) (some 63) (by kernel_rfl) (by kernel_rfl) (by kernel_rfl) qhb13 (fun f => f) (m := 45) (by kernel_rfl) (take_all (Rfm.len _)) (Rfm.len _) ?_
     refine GI_final 6 (by kernel_rfl) (by kernel_rfl) ?_
     refine OI_call { callee := (Callee.value (Operand.func 45)), args := #[(Operand.tmp 61), (Operand.const (Value.int IntKind.i64 0)), (Operand.tmp 62), (Operand.tmp 63)], argTypes := #[95, 3, 3, 57] } 45 #[pt g, nt 0, nt ((k : Nat) : Int), .agg (Rfm.cells (decY ts x (tallyT ((svcK ts (tot xs) now r1 ⟨s, r1, []⟩ k).s) ((k : Nat) : Int)) (tot xs) now)).toArray] (some 64) (by kernel_rfl) (by kernel_rfl) (by kernel_rfl) (rset_spec Hk r g ts (svcK ts (tot xs) now r1 ⟨s, r1, []⟩ k).rs ((k : Nat) : Int) (decY ts x (tallyT ((svcK ts (tot xs) now r1 ⟨s, r1, []⟩ k).s) ((k : Nat) : Int)) (tot xs) now) _ jR (by omega) (by rw [decY_trk]; exact hxt)) ?_
     rintro _ w170 ⟨rfl, ⟨H172, hR173, hfr174⟩, hk171⟩
     refine ⟨_, rfl, ?_⟩
     have hsz175 := Keep.size hk171
     replace jr := jr.keep hk171 (fun hs => by have h1 := hgo _ hs; have h2 := hgl _ hs; omega)
     replace jb1 := jb1.keep hk171 (fun hs => by have h1 := hgo _ hs; have h2 := hgl _ hs; omega)
     replace jb3 := jb3.keep hk171 (fun hs => by have h1 := hgo _ hs; have h2 := hgl _ hs; omega)
     replace jb5 := jb5.keep hk171 (fun hs => by have h1 := hgo _ hs; have h2 := hgl _ hs; omega)
     replace jb7 := jb7.keep hk171 (fun hs => by have h1 := hgo _ hs; have h2 := hgl _ hs; omega)
     replace jb29 := jb29.keep hk171 (fun hs => by have h1 := hgo _ hs; have h2 := hgl _ hs; omega)
     replace jbs36 := jbs36.keep hk171 (fun hs => by have h1 := hgo _ hs; have h2 := hgl _ hs; omega)
     replace jbn37 := jbn37.keep hk171 (fun hs => by have h1 := hgo _ hs; have h2 := hgl _ hs; omega)
     replace hb41_46 := hb41_46.keep hk171 (fun hs => by have h1 := hgo _ hs; have h2 := hgl _ hs; omega)
     replace hb13 := hb13.keep hk171 (fun hs => by have h1 := hgo _ hs; have h2 := hgl _ hs; omega)
     replace jA := SlT.keep jA hk171 (fun q hq hs => (fun q h1 h2 => (hAo q h2).2.2 h1) q hs hq)
     replace jA2 := SlT.keep jA2 hk171 (fun q hq hs => by have g0 := owA2 q hq; have g1 := ltjA2 q hq; have h1 := hgo q hs; have h2 := hgl q hs; omega)
     replace jAk := SlT.keep jAk hk171 (fun q hq hs => (fun q h1 h2 => (fun q h1 h2 => dAkH q h2 h1) q (by rw [show q = g from h1]; exact (Rfr.atg jR)) h2) q hs hq)
     replace jhl := Led.keep jhl hk171 (fun q hq hs => (fun q h1 h2 => dHG q (by rw [show q = g from h1]; exact (Rfr.atg jR)) h2) q hs hq)
     replace jhK0 := Keep.fresh jhK0 hk171 (by intro i hi hs; first | exact hs | (exfalso; have h1 := hgo i hs; have h2 := hgl i hs; omega) | (have h1 := hgo i hs; have h2 := hgl i hs; show _ ∨ _; omega))
     replace jV := VotT.keep jV hk171 (fun q hq hs => (fun q h1 h2 => dHF q (by rw [show q = g from h1]; exact (Rfr.atg jR)) h2) q hs hq)
     replace hfenb := Keep.fresh hfenb hk171 (by intro i hi hs; have h1 := hgo i hs; have h2 := hgl i hs; show _ ∨ _; omega)
     have own177 : ∀ q, H172 q → (q < w33.heap.size ∨ M1 ≤ q) ∧ q ≠ b1 ∧ q ≠ b3 ∧ q ≠ b5 ∧ q ≠ b7 ∧ q ≠ b29 ∧ q ≠ bs36 ∧ q ≠ bn37 ∧ q ≠ b41 ∧ q ≠ b13 := fun q hq => by rcases hfr174 q hq with h | h; (have h1 := hHko q h; have h2 := lt39 q h; omega); omega
     have lt176 := Rfr.lt hR173
     have rel178 : ∀ q, H172 q → H q ∨ w.heap.size ≤ q := fun q hq => by rcases hfr174 q hq with h | h; exact hHkr q h; exact .inr (by omega)
     have dis179 : ∀ q, H172 q → ¬ inA Ak q := fun q h1 h2 => by rcases hfr174 q h1 with h | h; exact (fun q h1 h2 => dAkH q h2 h1) q h h2; (have h4 := ltjAk q h2; omega)
     have dis180 : ∀ q, H172 q → ¬ G q := fun q h1 h2 => by rcases hfr174 q h1 with h | h; exact dHG q h h2; (have h4 := hGlt q h2; omega)
     have dis181 : ∀ q, H172 q → ¬ Fk q := fun q h1 h2 => by rcases hfr174 q h1 with h | h; exact dHF q h h2; (have h4 := lt40 q h2; omega)
     refine OI_end rfl ?_
     refine X_then ?_
     refine V_seq ?_
     refine V_region ?_
     refine OI_static 2 [(4, pt b1), (6, pt b5), (7, pt b7), (10, pt b29), (11, nt ((k : Nat) : Int)), (14, nt (decE ts x (tallyT ((svcK ts (tot xs) now r1 ⟨s, r1, []⟩ k).s) ((k : Nat) : Int)) (tot xs) now)), (66, .bool (!(decide (decE ts x (tallyT ((svcK ts (tot xs) now r1 ⟨s, r1, []⟩ k).s) ((k : Nat) : Int)) (tot xs) now = 0))))] (by kernel_rfl) ?_
     refine OI_end rfl ?_
     refine X_then ?_
     refine V_not (decE ts x (tallyT ((svcK ts (tot xs) now r1 ⟨s, r1, []⟩ k).s) ((k : Nat) : Int)) (tot xs) now = 0) (by kernel_rfl) (fun hc182 => ?_) (fun hc182 => ?_)
     ·
      refine V_draws (acts [0, 6, 7, 8, 9]) (fun q => q = g ∨ Fk q) [[0, 1, 2, 3, 4, 5, 6, 7, 8, 9], [1, 2, 3, 4, 5, 6, 0, 7, 8, 9], [1, 2, 3, 4, 5, 6, 7, 0, 8, 9]] (by kernel_rfl) (by repeat first | exact (by first | exact sure_postM | exact sure_rQ2 | exact sure_no) | refine sure_then ?_ | refine sure_block ?_ | refine sure_join ?_) (by kernel_rfl) ?_
      intro w184 hk183 he185 L hL186
      have hsz187 := Keep.size hk183
      replace jr := jr.keep hk183 (fun f => f)
      replace jb1 := jb1.keep hk183 (fun f => f)
      replace jb3 := jb3.keep hk183 (fun f => f)
      replace jb5 := jb5.keep hk183 (fun f => f)
      replace jb7 := jb7.keep hk183 (fun f => f)
      replace jb29 := jb29.keep hk183 (fun f => f)
      replace jbs36 := jbs36.keep hk183 (fun f => f)
      replace jbn37 := jbn37.keep hk183 (fun f => f)
      replace hb41_46 := hb41_46.keep hk183 (fun f => f)
      replace hb13 := hb13.keep hk183 (fun f => f)
      replace jA := SlT.keep0 jA hk183
      replace jA2 := SlT.keep0 jA2 hk183
      replace jAk := SlT.keep0 jAk hk183
      replace jhl := Led.keep jhl hk183 (fun _ _ f => f)
      replace jhK0 := Keep.tr jhK0 (Keep.ofNone hk183)
      replace jV := VotT.keep jV hk183 (fun _ _ f => f)
      replace hfenb := Keep.tr hfenb (Keep.ofNone hk183)
      replace hR173 := Rfr.keep hR173 hk183 (fun _ _ f => f)
      have qjr := jr
      have qjb1 := jb1
      have qjb3 := jb3
      have qjb5 := jb5
      have qjb7 := jb7
      have qjb29 := jb29
      have qjbs36 := jbs36
      have qjbn37 := jbn37
      have qhb41_46 := hb41_46
      have qhb13 := hb13
      have K188 : Keep (fun q => q = g ∨ Fk q) w184 w184 := Keep.refl _ _
      simp only [List.mem_cons, List.not_mem_nil, or_false] at hL186
      rcases hL186 with rfl | rfl | rfl
      ·
       refine GI_cellA 50 (.tmp 10) 0 (.slice Ak ((svcK ts (tot xs) now r1 ⟨s, r1, []⟩ k).out.length) capk) (some 67) (by kernel_rfl) (by kernel_rfl) K188 (by kernel_rfl) jb29 (m := 1) (by kernel_rfl) rfl ?_
       refine GI_cell 34 (.tmp 4) 0 (pt r) (some 68) (by kernel_rfl) (by kernel_rfl) (by kernel_rfl) qjb1 (fun hs => by rcases hs with hs | hs; omega; (have h1 := hFko _ hs; omega)) (m := 1) (by kernel_rfl) rfl ?_
       refine GI_cell 33 (.tmp 6) 0 (pt v) (some 69) (by kernel_rfl) (by kernel_rfl) (by kernel_rfl) qjb5 (fun hs => by rcases hs with hs | hs; omega; (have h1 := hFko _ hs; omega)) (m := 1) (by kernel_rfl) rfl ?_
       refine GI_static [5, 6, 7, 8, 9] [(7, pt b7), (10, pt b29), (67, .slice Ak ((svcK ts (tot xs) now r1 ⟨s, r1, []⟩ k).out.length) capk), (68, pt r), (69, pt v), (70, nt ((k : Nat) : Int)), (71, nt (decE ts x (tallyT ((svcK ts (tot xs) now r1 ⟨s, r1, []⟩ k).s) ((k : Nat) : Int)) (tot xs) now))] (by kernel_rfl) ?_
       refine GI_cell 3 (.tmp 7) 0 (nt now) (some 72) (by kernel_rfl) (by kernel_rfl) (by kernel_rfl) qjb7 (fun hs => by rcases hs with hs | hs; omega; (have h1 := hFko _ hs; omega)) (m := 1) (by kernel_rfl) rfl ?_
       refine GI_final 6 (by kernel_rfl) (by kernel_rfl) ?_
       refine OI_call { callee := (Callee.value (Operand.func 52)), args := #[(Operand.tmp 68), (Operand.tmp 69), (Operand.tmp 70), (Operand.tmp 71), (Operand.tmp 72)], argTypes := #[34, 33, 3, 3, 3] } 52 #[pt r, pt v, nt ((k : Nat) : Int), nt (decE ts x (tallyT ((svcK ts (tot xs) now r1 ⟨s, r1, []⟩ k).s) ((k : Nat) : Int)) (tot xs) now), nt now] (some 73) (by kernel_rfl) (by kernel_rfl) (by kernel_rfl) (ends_spec H172 r g ts ((svcK ts (tot xs) now r1 ⟨s, r1, []⟩ k).rs.set ((k : Nat) : Int).toNat (decY ts x (tallyT ((svcK ts (tot xs) now r1 ⟨s, r1, []⟩ k).s) ((k : Nat) : Int)) (tot xs) now)) Fk v ((svcK ts (tot xs) now r1 ⟨s, r1, []⟩ k).s) ((k : Nat) : Int) (decE ts x (tallyT ((svcK ts (tot xs) now r1 ⟨s, r1, []⟩ k).s) ((k : Nat) : Int)) (tot xs) now) now _ hR173 jV dis181 (getA_len (by rw [List.length_set]; omega))) ?_
       rintro _ w191 ⟨rfl, ⟨F193, F196, ho194, ho197, hfr195, hfr198, hdis199⟩, hk192⟩
       refine ⟨_, rfl, ?_⟩
       have hsz200 := Keep.size hk192
       replace jr := jr.keep hk192 (fun hs => by rcases hs with hs | hs; (have u0 := hgo _ hs; have u1 := hgl _ hs; omega); (have u0 := hFko _ hs; have u1 := lt40 _ hs; omega))
       replace jb1 := jb1.keep hk192 (fun hs => by rcases hs with hs | hs; (have u0 := hgo _ hs; have u1 := hgl _ hs; omega); (have u0 := hFko _ hs; have u1 := lt40 _ hs; omega))
       replace jb3 := jb3.keep hk192 (fun hs => by rcases hs with hs | hs; (have u0 := hgo _ hs; have u1 := hgl _ hs; omega); (have u0 := hFko _ hs; have u1 := lt40 _ hs; omega))
       replace jb5 := jb5.keep hk192 (fun hs => by rcases hs with hs | hs; (have u0 := hgo _ hs; have u1 := hgl _ hs; omega); (have u0 := hFko _ hs; have u1 := lt40 _ hs; omega))
       replace jb7 := jb7.keep hk192 (fun hs => by rcases hs with hs | hs; (have u0 := hgo _ hs; have u1 := hgl _ hs; omega); (have u0 := hFko _ hs; have u1 := lt40 _ hs; omega))
       replace jb29 := jb29.keep hk192 (fun hs => by rcases hs with hs | hs; (have u0 := hgo _ hs; have u1 := hgl _ hs; omega); (have u0 := hFko _ hs; have u1 := lt40 _ hs; omega))
       replace jbs36 := jbs36.keep hk192 (fun hs => by rcases hs with hs | hs; (have u0 := hgo _ hs; have u1 := hgl _ hs; omega); (have u0 := hFko _ hs; have u1 := lt40 _ hs; omega))
       replace jbn37 := jbn37.keep hk192 (fun hs => by rcases hs with hs | hs; (have u0 := hgo _ hs; have u1 := hgl _ hs; omega); (have u0 := hFko _ hs; have u1 := lt40 _ hs; omega))
       replace hb41_46 := hb41_46.keep hk192 (fun hs => by rcases hs with hs | hs; (have u0 := hgo _ hs; have u1 := hgl _ hs; omega); (have u0 := hFko _ hs; have u1 := lt40 _ hs; omega))
       replace hb13 := hb13.keep hk192 (fun hs => by rcases hs with hs | hs; (have u0 := hgo _ hs; have u1 := hgl _ hs; omega); (have u0 := hFko _ hs; have u1 := lt40 _ hs; omega))
       replace jA := SlT.keep jA hk192 (fun q hq hs => by rcases hs with hs | hs; exact (hAo q hq).2.2 hs; exact (fun q h1 h2 => dFA q h2 h1) q hq hs)
       replace jA2 := SlT.keep jA2 hk192 (fun q hq hs => by rcases hs with hs | hs; (have g0 := owA2 q hq; have g1 := ltjA2 q hq; have u9 : q = g := hs; omega); exact (fun q h1 h2 => dFA2 q h2 h1) q hq hs)
       replace jAk := SlT.keep jAk hk192 (fun q hq hs => by rcases hs with hs | hs; exact (fun q h1 h2 => dis179 q h2 h1) q hq (by rw [show q = g from hs]; exact (Rfr.atg hR173)); exact dAkF q hq hs)
       replace jhl := Led.keep jhl hk192 (fun q hq hs => by rcases hs with hs | hs; exact (fun q h1 h2 => dis180 q h2 h1) q hq (by rw [show q = g from hs]; exact (Rfr.atg hR173)); exact (fun q h1 h2 => dFG q h2 h1) q hq hs)
       replace jhK0 := Keep.fresh jhK0 hk192 (fun i hi hs => by rcases hs with hs | hs; (exact .inl hs); (rcases hFkr i hs with h | h; exact .inr <| h; (exfalso; omega)))
       replace hfenb := Keep.fresh hfenb hk192 (by intro i hi hs; rcases hs with hs | hs; (have u0 := hgo i hs; have u1 := hgl i hs; show _ ∨ _; omega); (have u0 := hFko i hs; have u1 := lt40 i hs; show _ ∨ _; omega))
       have own202 : ∀ q, F193 q → (q < w33.heap.size ∨ M1 ≤ q) ∧ q ≠ b1 ∧ q ≠ b3 ∧ q ≠ b5 ∧ q ≠ b7 ∧ q ≠ b29 ∧ q ≠ bs36 ∧ q ≠ bn37 ∧ q ≠ b41 ∧ q ≠ b13 := fun q hq => by rcases hfr195 q hq with h | h; (have h1 := own177 q h; have h2 := lt176 q h; omega); omega
       have lt201 := Rfr.lt ho194
       have rel203 : ∀ q, F193 q → H q ∨ w.heap.size ≤ q := fun q hq => by rcases hfr195 q hq with h | h; exact rel178 q h; exact .inr (by omega)
       have dis204 : ∀ q, F193 q → ¬ inA Ak q := fun q h1 h2 => by rcases hfr195 q h1 with h | h; exact dis179 q h h2; (have h4 := ltjAk q h2; omega)
       have dis205 : ∀ q, F193 q → ¬ G q := fun q h1 h2 => by rcases hfr195 q h1 with h | h; exact dis180 q h h2; (have h4 := hGlt q h2; omega)
       have own207 : ∀ q, F196 q → (q < w33.heap.size ∨ M1 ≤ q) ∧ q ≠ r ∧ q ≠ b1 ∧ q ≠ b3 ∧ q ≠ b5 ∧ q ≠ b7 ∧ q ≠ b29 ∧ q ≠ bs36 ∧ q ≠ bn37 ∧ q ≠ b41 ∧ q ≠ b13 := fun q hq => by rcases hfr198 q hq with h | h; (have h1 := hFko q h; have h2 := lt40 q h; omega); omega
       have lt206 := VotT.lt ho197
       have rel208 : ∀ q, F196 q → F q ∨ w.heap.size ≤ q := fun q hq => by rcases hfr198 q hq with h | h; exact hFkr q h; exact .inr (by omega)
       have dis209 : ∀ q, F196 q → ¬ inA A q := fun q h1 h2 => by rcases hfr198 q h1 with h | h; exact dFA q h h2; (have h4 := ltjA q h2; omega)
       have dis210 : ∀ q, F196 q → ¬ inA A2 q := fun q h1 h2 => by rcases hfr198 q h1 with h | h; exact dFA2 q h h2; (have h4 := ltjA2 q h2; omega)
       have dis211 : ∀ q, F196 q → ¬ inA Ak q := fun q h1 h2 => by rcases hfr198 q h1 with h | h; exact (fun q h1 h2 => dAkF q h2 h1) q h h2; (have h4 := ltjAk q h2; omega)
       have dis212 : ∀ q, F196 q → ¬ G q := fun q h1 h2 => by rcases hfr198 q h1 with h | h; exact dFG q h h2; (have h4 := hGlt q h2; omega)
       refine OI_slit (E := 53) (zv := .agg #[nt 0, nt 0, nt 0]) (sz := 3) (by_ := 24) 50 1 #[(0, (Operand.tmp 73))] [.agg (Evt.cells (Evt.mk 1 ((k : Nat) : Int) (decE ts x (tallyT ((svcK ts (tot xs) now r1 ⟨s, r1, []⟩ k).s) ((k : Nat) : Int)) (tot xs) now))).toArray] (Evt.cells (Evt.mk 1 ((k : Nat) : Int) (decE ts x (tallyT ((svcK ts (tot xs) now r1 ⟨s, r1, []⟩ k).s) ((k : Nat) : Int)) (tot xs) now))) (some 74) (by kernel_rfl) (by kernel_rfl) (by kernel_rfl) (by omega) rfl (by omega) (by intro v hv; obtain rfl := List.mem_singleton.1 hv; show (Evt.cells (Evt.mk 1 ((k : Nat) : Int) (decE ts x (tallyT ((svcK ts (tot xs) now r1 ⟨s, r1, []⟩ k).s) ((k : Nat) : Int)) (tot xs) now))).toArray.size = 3; simp [Evt.len]) (by kernel_rfl) (by show (Evt.cells (Evt.mk 1 ((k : Nat) : Int) (decE ts x (tallyT ((svcK ts (tot xs) now r1 ⟨s, r1, []⟩ k).s) ((k : Nat) : Int)) (tot xs) now))).toArray.toList ++ [] = _; simp) ?_
       intro b213 w213 e213 hb213 k213 z213
       have hsz214 := Keep.size k213
       replace jr := jr.keep k213 (fun f => f)
       replace jb1 := jb1.keep k213 (fun f => f)
       replace jb3 := jb3.keep k213 (fun f => f)
       replace jb5 := jb5.keep k213 (fun f => f)
       replace jb7 := jb7.keep k213 (fun f => f)
       replace jb29 := jb29.keep k213 (fun f => f)
       replace jbs36 := jbs36.keep k213 (fun f => f)
       replace jbn37 := jbn37.keep k213 (fun f => f)
       replace hb41_46 := hb41_46.keep k213 (fun f => f)
       replace hb13 := hb13.keep k213 (fun f => f)
       replace jA := SlT.keep0 jA k213
       replace jA2 := SlT.keep0 jA2 k213
       replace jAk := SlT.keep0 jAk k213
       replace jhl := Led.keep jhl k213 (fun _ _ f => f)
       replace jhK0 := Keep.tr jhK0 (Keep.ofNone k213)
       replace hfenb := Keep.tr hfenb (Keep.ofNone k213)
       replace ho194 := Rfr.keep ho194 k213 (fun _ _ f => f)
       replace ho197 := VotT.keep ho197 k213 (fun _ _ f => f)
       have hb213lt := hb213.lt
       refine OI_append (t := 50) (at2 := 50) (E := 53) (E2 := 53) (sz := 3) (by_ := 24) (zv := .agg #[nt 0, nt 0, nt 0]) (m := ((svcK ts (tot xs) now r1 ⟨s, r1, []⟩ k).out).length) (k := 1) (.tmp 67) (.tmp 74) (.slice Ak ((svcK ts (tot xs) now r1 ⟨s, r1, []⟩ k).out.length) capk) (.slice (some ⟨b213, 0, none⟩) 1 1) (some 75) (by kernel_rfl) (by kernel_rfl) (by kernel_rfl) (by kernel_rfl) (by kernel_rfl) (by kernel_rfl) (by kernel_rfl) (SlT.slr jAk) (slr_one hb213 (Evt.len ((Evt.mk 1 ((k : Nat) : Int) (decE ts x (tallyT ((svcK ts (tot xs) now r1 ⟨s, r1, []⟩ k).s) ((k : Nat) : Int)) (tot xs) now))))) (Evt.one ((Evt.mk 1 ((k : Nat) : Int) (decE ts x (tallyT ((svcK ts (tot xs) now r1 ⟨s, r1, []⟩ k).s) ((k : Nat) : Int)) (tot xs) now)))) (by first | omega | (simp only [List.length_nil]; omega)) (by omega) (by first | omega | (simp only [List.length_nil]; omega)) (by omega) ?_
       intro vv9 w215 hap
       obtain ⟨A215, cap215, rfl, hA215, hk215, own215x⟩ := app_one (f := Evt.cells) (xs := ((svcK ts (tot xs) now r1 ⟨s, r1, []⟩ k).out)) (x := ((Evt.mk 1 ((k : Nat) : Int) (decE ts x (tallyT ((svcK ts (tot xs) now r1 ⟨s, r1, []⟩ k).s) ((k : Nat) : Int)) (tot xs) now)))) (A := Ak) (cap := capk) hap (fun x _ => Evt.len x) (Evt.len _)
       have own215 : ∀ q, inA A215 q → M1 ≤ q := fun q hq => by rcases own215x q hq with h | h; exact ownk q h; (show M1 ≤ q; omega)
       have hsz216 := Keep.size hk215
       replace jr := jr.keep hk215 (fun hs => by have h1 := ownk _ hs; have h2 := ltjAk _ hs; omega)
       replace jb1 := jb1.keep hk215 (fun hs => by have h1 := ownk _ hs; have h2 := ltjAk _ hs; omega)
       replace jb3 := jb3.keep hk215 (fun hs => by have h1 := ownk _ hs; have h2 := ltjAk _ hs; omega)
       replace jb5 := jb5.keep hk215 (fun hs => by have h1 := ownk _ hs; have h2 := ltjAk _ hs; omega)
       replace jb7 := jb7.keep hk215 (fun hs => by have h1 := ownk _ hs; have h2 := ltjAk _ hs; omega)
       replace jb29 := jb29.keep hk215 (fun hs => by have h1 := ownk _ hs; have h2 := ltjAk _ hs; omega)
       replace jbs36 := jbs36.keep hk215 (fun hs => by have h1 := ownk _ hs; have h2 := ltjAk _ hs; omega)
       replace jbn37 := jbn37.keep hk215 (fun hs => by have h1 := ownk _ hs; have h2 := ltjAk _ hs; omega)
       replace hb41_46 := hb41_46.keep hk215 (fun hs => by have h1 := ownk _ hs; have h2 := ltjAk _ hs; omega)
       replace hb13 := hb13.keep hk215 (fun hs => by have h1 := ownk _ hs; have h2 := ltjAk _ hs; omega)
       replace jA := SlT.keep jA hk215 (fun q hq hs => by have g0 := hAr q hq; have g1 := ltjA q hq; have h1 := ownk q hs; have h2 := ltjAk q hs; omega)
       replace jA2 := SlT.keep jA2 hk215 (fun q hq hs => by have g0 := owA2 q hq; have g1 := ltjA2 q hq; have h1 := ownk q hs; have h2 := ltjAk q hs; omega)
       replace jhl := Led.keep jhl hk215 (fun q hq hs => (fun (q : Nat) (h1 : inA Ak q) (h2 : G q) => by have h3 := ownk q h1; have h4 := hGlt q h2; omega) q hs hq)
       replace jhK0 := Keep.fresh jhK0 hk215 (by intro i hi hs; first | exact hs | (exfalso; have h1 := ownk i hs; have h2 := ltjAk i hs; omega) | (have h1 := ownk i hs; have h2 := ltjAk i hs; show _ ∨ _; omega))
       replace hfenb := Keep.fresh hfenb hk215 (by intro i hi hs; have h1 := ownk i hs; have h2 := ltjAk i hs; show _ ∨ _; omega)
       replace ho194 := Rfr.keep ho194 hk215 (fun q hq hs => (fun q h1 h2 => dis204 q h2 h1) q hs hq)
       replace ho197 := VotT.keep ho197 hk215 (fun q hq hs => (fun q h1 h2 => dis211 q h2 h1) q hs hq)
       have lt215 := SlT.lt hA215
       have dis217 : ∀ q, inA A215 q → ¬ G q := fun q h1 h2 => by rcases own215x q h1 with h | h; exact (fun (q : Nat) (h1 : G q) (h2 : inA Ak q) => by have h3 := ownk q h2; have h4 := hGlt q h1; omega) q h2 h; (have h4 := hGlt q h2; omega)
       have dis218 : ∀ q, inA A215 q → ¬ F193 q := fun q h1 h2 => by rcases own215x q h1 with h | h; exact dis204 q h2 h; (have h4 := lt201 q h2; omega)
       have dis219 : ∀ q, inA A215 q → ¬ F196 q := fun q h1 h2 => by rcases own215x q h1 with h | h; exact dis211 q h2 h; (have h4 := lt206 q h2; omega)
       refine OI_set (m := 1) (kd := false) 50 (.tmp 10) (.tmp 75) 0 (.slice A215 (((svcK ts (tot xs) now r1 ⟨s, r1, []⟩ k).out ++ [((Evt.mk 1 ((k : Nat) : Int) (decE ts x (tallyT ((svcK ts (tot xs) now r1 ⟨s, r1, []⟩ k).s) ((k : Nat) : Int)) (tot xs) now)))]).length) cap215) [.slice A215 (((svcK ts (tot xs) now r1 ⟨s, r1, []⟩ k).out ++ [((Evt.mk 1 ((k : Nat) : Int) (decE ts x (tallyT ((svcK ts (tot xs) now r1 ⟨s, r1, []⟩ k).s) ((k : Nat) : Int)) (tot xs) now)))]).length) cap215] none (by kernel_rfl) (by kernel_rfl) (by kernel_rfl) jb29 (by kernel_rfl) (by kernel_rfl) (by kernel_rfl) (Nat.le_of_ble_eq_true (by kernel_rfl)) (by simp [Value.oneCell']) ?_
       intro w220 hb29_223 hk221 hz222
       replace hb29_223 : Blk w220 b29 [.slice A215 (((svcK ts (tot xs) now r1 ⟨s, r1, []⟩ k).out ++ [((Evt.mk 1 ((k : Nat) : Int) (decE ts x (tallyT ((svcK ts (tot xs) now r1 ⟨s, r1, []⟩ k).s) ((k : Nat) : Int)) (tot xs) now)))]).length) cap215] 50 := hb29_223
       have hsz224 := Keep.size hk221
       replace jr := jr.keep hk221 (by show ¬ (_ = _); omega)
       replace jb1 := jb1.keep hk221 (by show ¬ (_ = _); omega)
       replace jb3 := jb3.keep hk221 (by show ¬ (_ = _); omega)
       replace jb5 := jb5.keep hk221 (by show ¬ (_ = _); omega)
       replace jb7 := jb7.keep hk221 (by show ¬ (_ = _); omega)
       replace jbs36 := jbs36.keep hk221 (by show ¬ (_ = _); omega)
       replace jbn37 := jbn37.keep hk221 (by show ¬ (_ = _); omega)
       replace hb41_46 := hb41_46.keep hk221 (by show ¬ (_ = _); omega)
       replace hb13 := hb13.keep hk221 (by show ¬ (_ = _); omega)
       replace jA := SlT.keep jA hk221 (fun q hq hs => by have hs : q = b29 := hs; have g0 := hAr q hq; have g1 := ltjA q hq; omega)
       replace jA2 := SlT.keep jA2 hk221 (fun q hq hs => by have hs : q = b29 := hs; have g0 := owA2 q hq; have g1 := ltjA2 q hq; omega)
       replace hA215 := SlT.keep hA215 hk221 (fun q hq hs => by have hs : q = b29 := hs; have g0 := own215 q hq; have g1 := lt215 q hq; omega)
       replace jhl := Led.keep jhl hk221 (fun q hq hs => by have hs : q = b29 := hs; have g0 := hlr q hq; have g1 := hGlt q hq; omega)
       replace jhK0 := Keep.fresh jhK0 hk221 (by intro i hi hs; first | exact hs | exact Or.inl hs | exact Or.inr hs | (exfalso; have hs2 : i = b29 := hs; omega))
       replace hfenb := Keep.fresh hfenb hk221 (by intro i hi hs; have hs2 : i = b29 := hs; show _ ∨ _; omega)
       replace ho194 := Rfr.keep ho194 hk221 (fun q hq hs => by have hs : q = b29 := hs; have g0 := own202 q hq; have g1 := lt201 q hq; omega)
       replace ho197 := VotT.keep ho197 hk221 (fun q hq hs => by have hs : q = b29 := hs; have g0 := own207 q hq; have g1 := lt206 q hq; omega)
       refine OI_end rfl ?_
       refine X_block ?_
       have hq9 := hstp.trans (step_end hc49 hc182)
       rw [endR_set (by omega)] at ho194
       exact fun a _ => ⟨hfenb, A215, cap215, F193, F196, jr, jb1, jb3, jb5, jb7, jbs36, jbn37, jA, jA2, jhl, jhK0, by rw [hq9]; exact hb29_223, by rw [hq9]; exact hA215, by rw [hq9]; exact ho194, by rw [hq9]; exact ho197, own215, (fun q hq => by have h1 := own202 q hq; have h2 := lt201 q hq; omega), rel203, (fun q hq => by have h1 := own207 q hq; have h2 := lt206 q hq; omega), rel208, hdis199, dis205, dis212, dis210, dis209, dis218, dis219⟩
      ·
       refine GI_cell 34 (.tmp 4) 0 (pt r) (some 68) (by kernel_rfl) (by kernel_rfl) (by kernel_rfl) qjb1 (fun hs => by rcases hs with hs | hs; omega; (have h1 := hFko _ hs; omega)) (m := 1) (by kernel_rfl) rfl ?_
       refine GI_cell 33 (.tmp 6) 0 (pt v) (some 69) (by kernel_rfl) (by kernel_rfl) (by kernel_rfl) qjb5 (fun hs => by rcases hs with hs | hs; omega; (have h1 := hFko _ hs; omega)) (m := 1) (by kernel_rfl) rfl ?_
       refine GI_static [5, 6, 0, 7, 8, 9] [(7, pt b7), (10, pt b29), (68, pt r), (69, pt v), (70, nt ((k : Nat) : Int)), (71, nt (decE ts x (tallyT ((svcK ts (tot xs) now r1 ⟨s, r1, []⟩ k).s) ((k : Nat) : Int)) (tot xs) now))] (by kernel_rfl) ?_
       refine GI_cell 3 (.tmp 7) 0 (nt now) (some 72) (by kernel_rfl) (by kernel_rfl) (by kernel_rfl) qjb7 (fun hs => by rcases hs with hs | hs; omega; (have h1 := hFko _ hs; omega)) (m := 1) (by kernel_rfl) rfl ?_
       refine GI_call { callee := (Callee.value (Operand.func 52)), args := #[(Operand.tmp 68), (Operand.tmp 69), (Operand.tmp 70), (Operand.tmp 71), (Operand.tmp 72)], argTypes := #[34, 33, 3, 3, 3] } 52 #[pt r, pt v, nt ((k : Nat) : Int), nt (decE ts x (tallyT ((svcK ts (tot xs) now r1 ⟨s, r1, []⟩ k).s) ((k : Nat) : Int)) (tot xs) now), nt now] (some 73) (by kernel_rfl) (by kernel_rfl) (by kernel_rfl) (by kernel_rfl) (ends_spec H172 r g ts ((svcK ts (tot xs) now r1 ⟨s, r1, []⟩ k).rs.set ((k : Nat) : Int).toNat (decY ts x (tallyT ((svcK ts (tot xs) now r1 ⟨s, r1, []⟩ k).s) ((k : Nat) : Int)) (tot xs) now)) Fk v ((svcK ts (tot xs) now r1 ⟨s, r1, []⟩ k).s) ((k : Nat) : Int) (decE ts x (tallyT ((svcK ts (tot xs) now r1 ⟨s, r1, []⟩ k).s) ((k : Nat) : Int)) (tot xs) now) now _ hR173 jV dis181 (getA_len (by rw [List.length_set]; omega))) ?_
       rintro _ w227 ⟨rfl, ⟨F229, F232, ho230, ho233, hfr231, hfr234, hdis235⟩, hk228⟩
       have K236 := Keep.fresh K188 hk228 (by intro i hi hs; first | exact hs | (rcases hs with hs | hs; (have u0 := hgo i hs; have u1 := hgl i hs; omega); (have u0 := hFko i hs; have u1 := lt40 i hs; omega)))
       refine ⟨_, rfl, K236, ?_⟩
       have hzK236 := Keep.size K236
       have hsz237 := Keep.size hk228
       replace jr := jr.keep hk228 (fun hs => by rcases hs with hs | hs; (have u0 := hgo _ hs; have u1 := hgl _ hs; omega); (have u0 := hFko _ hs; have u1 := lt40 _ hs; omega))
       replace jb1 := jb1.keep hk228 (fun hs => by rcases hs with hs | hs; (have u0 := hgo _ hs; have u1 := hgl _ hs; omega); (have u0 := hFko _ hs; have u1 := lt40 _ hs; omega))
       replace jb3 := jb3.keep hk228 (fun hs => by rcases hs with hs | hs; (have u0 := hgo _ hs; have u1 := hgl _ hs; omega); (have u0 := hFko _ hs; have u1 := lt40 _ hs; omega))
       replace jb5 := jb5.keep hk228 (fun hs => by rcases hs with hs | hs; (have u0 := hgo _ hs; have u1 := hgl _ hs; omega); (have u0 := hFko _ hs; have u1 := lt40 _ hs; omega))
       replace jb7 := jb7.keep hk228 (fun hs => by rcases hs with hs | hs; (have u0 := hgo _ hs; have u1 := hgl _ hs; omega); (have u0 := hFko _ hs; have u1 := lt40 _ hs; omega))
       replace jb29 := jb29.keep hk228 (fun hs => by rcases hs with hs | hs; (have u0 := hgo _ hs; have u1 := hgl _ hs; omega); (have u0 := hFko _ hs; have u1 := lt40 _ hs; omega))
       replace jbs36 := jbs36.keep hk228 (fun hs => by rcases hs with hs | hs; (have u0 := hgo _ hs; have u1 := hgl _ hs; omega); (have u0 := hFko _ hs; have u1 := lt40 _ hs; omega))
       replace jbn37 := jbn37.keep hk228 (fun hs => by rcases hs with hs | hs; (have u0 := hgo _ hs; have u1 := hgl _ hs; omega); (have u0 := hFko _ hs; have u1 := lt40 _ hs; omega))
       replace hb41_46 := hb41_46.keep hk228 (fun hs => by rcases hs with hs | hs; (have u0 := hgo _ hs; have u1 := hgl _ hs; omega); (have u0 := hFko _ hs; have u1 := lt40 _ hs; omega))
       replace hb13 := hb13.keep hk228 (fun hs => by rcases hs with hs | hs; (have u0 := hgo _ hs; have u1 := hgl _ hs; omega); (have u0 := hFko _ hs; have u1 := lt40 _ hs; omega))
       replace jA := SlT.keep jA hk228 (fun q hq hs => by rcases hs with hs | hs; exact (hAo q hq).2.2 hs; exact (fun q h1 h2 => dFA q h2 h1) q hq hs)
       replace jA2 := SlT.keep jA2 hk228 (fun q hq hs => by rcases hs with hs | hs; (have g0 := owA2 q hq; have g1 := ltjA2 q hq; have u9 : q = g := hs; omega); exact (fun q h1 h2 => dFA2 q h2 h1) q hq hs)
       replace jAk := SlT.keep jAk hk228 (fun q hq hs => by rcases hs with hs | hs; exact (fun q h1 h2 => dis179 q h2 h1) q hq (by rw [show q = g from hs]; exact (Rfr.atg hR173)); exact dAkF q hq hs)
       replace jhl := Led.keep jhl hk228 (fun q hq hs => by rcases hs with hs | hs; exact (fun q h1 h2 => dis180 q h2 h1) q hq (by rw [show q = g from hs]; exact (Rfr.atg hR173)); exact (fun q h1 h2 => dFG q h2 h1) q hq hs)
       replace jhK0 := Keep.fresh jhK0 hk228 (fun i hi hs => by rcases hs with hs | hs; (exact .inl hs); (rcases hFkr i hs with h | h; exact .inr <| h; (exfalso; omega)))
       replace hfenb := Keep.fresh hfenb hk228 (by intro i hi hs; rcases hs with hs | hs; (have u0 := hgo i hs; have u1 := hgl i hs; show _ ∨ _; omega); (have u0 := hFko i hs; have u1 := lt40 i hs; show _ ∨ _; omega))
       have own239 : ∀ q, F229 q → (q < w33.heap.size ∨ M1 ≤ q) ∧ q ≠ b1 ∧ q ≠ b3 ∧ q ≠ b5 ∧ q ≠ b7 ∧ q ≠ b29 ∧ q ≠ bs36 ∧ q ≠ bn37 ∧ q ≠ b41 ∧ q ≠ b13 := fun q hq => by rcases hfr231 q hq with h | h; (have h1 := own177 q h; have h2 := lt176 q h; omega); omega
       have lt238 := Rfr.lt ho230
       have rel240 : ∀ q, F229 q → H q ∨ w.heap.size ≤ q := fun q hq => by rcases hfr231 q hq with h | h; exact rel178 q h; exact .inr (by omega)
       have dis241 : ∀ q, F229 q → ¬ inA Ak q := fun q h1 h2 => by rcases hfr231 q h1 with h | h; exact dis179 q h h2; (have h4 := ltjAk q h2; omega)
       have dis242 : ∀ q, F229 q → ¬ G q := fun q h1 h2 => by rcases hfr231 q h1 with h | h; exact dis180 q h h2; (have h4 := hGlt q h2; omega)
       have own244 : ∀ q, F232 q → (q < w33.heap.size ∨ M1 ≤ q) ∧ q ≠ r ∧ q ≠ b1 ∧ q ≠ b3 ∧ q ≠ b5 ∧ q ≠ b7 ∧ q ≠ b29 ∧ q ≠ bs36 ∧ q ≠ bn37 ∧ q ≠ b41 ∧ q ≠ b13 := fun q hq => by rcases hfr234 q hq with h | h; (have h1 := hFko q h; have h2 := lt40 q h; omega); omega
       have lt243 := VotT.lt ho233
       have rel245 : ∀ q, F232 q → F q ∨ w.heap.size ≤ q := fun q hq => by rcases hfr234 q hq with h | h; exact hFkr q h; exact .inr (by omega)
       have dis246 : ∀ q, F232 q → ¬ inA A q := fun q h1 h2 => by rcases hfr234 q h1 with h | h; exact dFA q h h2; (have h4 := ltjA q h2; omega)
       have dis247 : ∀ q, F232 q → ¬ inA A2 q := fun q h1 h2 => by rcases hfr234 q h1 with h | h; exact dFA2 q h h2; (have h4 := ltjA2 q h2; omega)
       have dis248 : ∀ q, F232 q → ¬ inA Ak q := fun q h1 h2 => by rcases hfr234 q h1 with h | h; exact (fun q h1 h2 => dAkF q h2 h1) q h h2; (have h4 := ltjAk q h2; omega)
       have dis249 : ∀ q, F232 q → ¬ G q := fun q h1 h2 => by rcases hfr234 q h1 with h | h; exact dFG q h h2; (have h4 := hGlt q h2; omega)
       refine GI_cellA 50 (.tmp 10) 0 (.slice Ak ((svcK ts (tot xs) now r1 ⟨s, r1, []⟩ k).out.length) capk) (some 67) (by kernel_rfl) (by kernel_rfl) K236 (by kernel_rfl) jb29 (m := 1) (by kernel_rfl) rfl ?_
       refine GI_final 7 (by kernel_rfl) (by kernel_rfl) ?_
       refine OI_slit (E := 53) (zv := .agg #[nt 0, nt 0, nt 0]) (sz := 3) (by_ := 24) 50 1 #[(0, (Operand.tmp 73))] [.agg (Evt.cells (Evt.mk 1 ((k : Nat) : Int) (decE ts x (tallyT ((svcK ts (tot xs) now r1 ⟨s, r1, []⟩ k).s) ((k : Nat) : Int)) (tot xs) now))).toArray] (Evt.cells (Evt.mk 1 ((k : Nat) : Int) (decE ts x (tallyT ((svcK ts (tot xs) now r1 ⟨s, r1, []⟩ k).s) ((k : Nat) : Int)) (tot xs) now))) (some 74) (by kernel_rfl) (by kernel_rfl) (by kernel_rfl) (by omega) rfl (by omega) (by intro v hv; obtain rfl := List.mem_singleton.1 hv; show (Evt.cells (Evt.mk 1 ((k : Nat) : Int) (decE ts x (tallyT ((svcK ts (tot xs) now r1 ⟨s, r1, []⟩ k).s) ((k : Nat) : Int)) (tot xs) now))).toArray.size = 3; simp [Evt.len]) (by kernel_rfl) (by show (Evt.cells (Evt.mk 1 ((k : Nat) : Int) (decE ts x (tallyT ((svcK ts (tot xs) now r1 ⟨s, r1, []⟩ k).s) ((k : Nat) : Int)) (tot xs) now))).toArray.toList ++ [] = _; simp) ?_
       intro b250 w250 e250 hb250 k250 z250
       have hsz251 := Keep.size k250
       replace jr := jr.keep k250 (fun f => f)
       replace jb1 := jb1.keep k250 (fun f => f)
       replace jb3 := jb3.keep k250 (fun f => f)
       replace jb5 := jb5.keep k250 (fun f => f)
       replace jb7 := jb7.keep k250 (fun f => f)
       replace jb29 := jb29.keep k250 (fun f => f)
       replace jbs36 := jbs36.keep k250 (fun f => f)
       replace jbn37 := jbn37.keep k250 (fun f => f)
       replace hb41_46 := hb41_46.keep k250 (fun f => f)
       replace hb13 := hb13.keep k250 (fun f => f)
       replace jA := SlT.keep0 jA k250
       replace jA2 := SlT.keep0 jA2 k250
       replace jAk := SlT.keep0 jAk k250
       replace jhl := Led.keep jhl k250 (fun _ _ f => f)
       replace jhK0 := Keep.tr jhK0 (Keep.ofNone k250)
       replace hfenb := Keep.tr hfenb (Keep.ofNone k250)
       replace ho230 := Rfr.keep ho230 k250 (fun _ _ f => f)
       replace ho233 := VotT.keep ho233 k250 (fun _ _ f => f)
       have hb250lt := hb250.lt
       refine OI_append (t := 50) (at2 := 50) (E := 53) (E2 := 53) (sz := 3) (by_ := 24) (zv := .agg #[nt 0, nt 0, nt 0]) (m := ((svcK ts (tot xs) now r1 ⟨s, r1, []⟩ k).out).length) (k := 1) (.tmp 67) (.tmp 74) (.slice Ak ((svcK ts (tot xs) now r1 ⟨s, r1, []⟩ k).out.length) capk) (.slice (some ⟨b250, 0, none⟩) 1 1) (some 75) (by kernel_rfl) (by kernel_rfl) (by kernel_rfl) (by kernel_rfl) (by kernel_rfl) (by kernel_rfl) (by kernel_rfl) (SlT.slr jAk) (slr_one hb250 (Evt.len ((Evt.mk 1 ((k : Nat) : Int) (decE ts x (tallyT ((svcK ts (tot xs) now r1 ⟨s, r1, []⟩ k).s) ((k : Nat) : Int)) (tot xs) now))))) (Evt.one ((Evt.mk 1 ((k : Nat) : Int) (decE ts x (tallyT ((svcK ts (tot xs) now r1 ⟨s, r1, []⟩ k).s) ((k : Nat) : Int)) (tot xs) now)))) (by first | omega | (simp only [List.length_nil]; omega)) (by omega) (by first | omega | (simp only [List.length_nil]; omega)) (by omega) ?_
       intro vv9 w252 hap
       obtain ⟨A252, cap252, rfl, hA252, hk252, own252x⟩ := app_one (f := Evt.cells) (xs := ((svcK ts (tot xs) now r1 ⟨s, r1, []⟩ k).out)) (x := ((Evt.mk 1 ((k : Nat) : Int) (decE ts x (tallyT ((svcK ts (tot xs) now r1 ⟨s, r1, []⟩ k).s) ((k : Nat) : Int)) (tot xs) now)))) (A := Ak) (cap := capk) hap (fun x _ => Evt.len x) (Evt.len _)
       have own252 : ∀ q, inA A252 q → M1 ≤ q := fun q hq => by rcases own252x q hq with h | h; exact ownk q h; (show M1 ≤ q; omega)
       have hsz253 := Keep.size hk252
       replace jr := jr.keep hk252 (fun hs => by have h1 := ownk _ hs; have h2 := ltjAk _ hs; omega)
       replace jb1 := jb1.keep hk252 (fun hs => by have h1 := ownk _ hs; have h2 := ltjAk _ hs; omega)
       replace jb3 := jb3.keep hk252 (fun hs => by have h1 := ownk _ hs; have h2 := ltjAk _ hs; omega)
       replace jb5 := jb5.keep hk252 (fun hs => by have h1 := ownk _ hs; have h2 := ltjAk _ hs; omega)
       replace jb7 := jb7.keep hk252 (fun hs => by have h1 := ownk _ hs; have h2 := ltjAk _ hs; omega)
       replace jb29 := jb29.keep hk252 (fun hs => by have h1 := ownk _ hs; have h2 := ltjAk _ hs; omega)
       replace jbs36 := jbs36.keep hk252 (fun hs => by have h1 := ownk _ hs; have h2 := ltjAk _ hs; omega)
       replace jbn37 := jbn37.keep hk252 (fun hs => by have h1 := ownk _ hs; have h2 := ltjAk _ hs; omega)
       replace hb41_46 := hb41_46.keep hk252 (fun hs => by have h1 := ownk _ hs; have h2 := ltjAk _ hs; omega)
       replace hb13 := hb13.keep hk252 (fun hs => by have h1 := ownk _ hs; have h2 := ltjAk _ hs; omega)
       replace jA := SlT.keep jA hk252 (fun q hq hs => by have g0 := hAr q hq; have g1 := ltjA q hq; have h1 := ownk q hs; have h2 := ltjAk q hs; omega)
       replace jA2 := SlT.keep jA2 hk252 (fun q hq hs => by have g0 := owA2 q hq; have g1 := ltjA2 q hq; have h1 := ownk q hs; have h2 := ltjAk q hs; omega)
       replace jhl := Led.keep jhl hk252 (fun q hq hs => (fun (q : Nat) (h1 : inA Ak q) (h2 : G q) => by have h3 := ownk q h1; have h4 := hGlt q h2; omega) q hs hq)
       replace jhK0 := Keep.fresh jhK0 hk252 (by intro i hi hs; first | exact hs | (exfalso; have h1 := ownk i hs; have h2 := ltjAk i hs; omega) | (have h1 := ownk i hs; have h2 := ltjAk i hs; show _ ∨ _; omega))
       replace hfenb := Keep.fresh hfenb hk252 (by intro i hi hs; have h1 := ownk i hs; have h2 := ltjAk i hs; show _ ∨ _; omega)
       replace ho230 := Rfr.keep ho230 hk252 (fun q hq hs => (fun q h1 h2 => dis241 q h2 h1) q hs hq)
       replace ho233 := VotT.keep ho233 hk252 (fun q hq hs => (fun q h1 h2 => dis248 q h2 h1) q hs hq)
       have lt252 := SlT.lt hA252
       have dis254 : ∀ q, inA A252 q → ¬ G q := fun q h1 h2 => by rcases own252x q h1 with h | h; exact (fun (q : Nat) (h1 : G q) (h2 : inA Ak q) => by have h3 := ownk q h2; have h4 := hGlt q h1; omega) q h2 h; (have h4 := hGlt q h2; omega)
       have dis255 : ∀ q, inA A252 q → ¬ F229 q := fun q h1 h2 => by rcases own252x q h1 with h | h; exact dis241 q h2 h; (have h4 := lt238 q h2; omega)
       have dis256 : ∀ q, inA A252 q → ¬ F232 q := fun q h1 h2 => by rcases own252x q h1 with h | h; exact dis248 q h2 h; (have h4 := lt243 q h2; omega)
       refine OI_set (m := 1) (kd := false) 50 (.tmp 10) (.tmp 75) 0 (.slice A252 (((svcK ts (tot xs) now r1 ⟨s, r1, []⟩ k).out ++ [((Evt.mk 1 ((k : Nat) : Int) (decE ts x (tallyT ((svcK ts (tot xs) now r1 ⟨s, r1, []⟩ k).s) ((k : Nat) : Int)) (tot xs) now)))]).length) cap252) [.slice A252 (((svcK ts (tot xs) now r1 ⟨s, r1, []⟩ k).out ++ [((Evt.mk 1 ((k : Nat) : Int) (decE ts x (tallyT ((svcK ts (tot xs) now r1 ⟨s, r1, []⟩ k).s) ((k : Nat) : Int)) (tot xs) now)))]).length) cap252] none (by kernel_rfl) (by kernel_rfl) (by kernel_rfl) jb29 (by kernel_rfl) (by kernel_rfl) (by kernel_rfl) (Nat.le_of_ble_eq_true (by kernel_rfl)) (by simp [Value.oneCell']) ?_
       intro w257 hb29_260 hk258 hz259
       replace hb29_260 : Blk w257 b29 [.slice A252 (((svcK ts (tot xs) now r1 ⟨s, r1, []⟩ k).out ++ [((Evt.mk 1 ((k : Nat) : Int) (decE ts x (tallyT ((svcK ts (tot xs) now r1 ⟨s, r1, []⟩ k).s) ((k : Nat) : Int)) (tot xs) now)))]).length) cap252] 50 := hb29_260
       have hsz261 := Keep.size hk258
       replace jr := jr.keep hk258 (by show ¬ (_ = _); omega)
       replace jb1 := jb1.keep hk258 (by show ¬ (_ = _); omega)
       replace jb3 := jb3.keep hk258 (by show ¬ (_ = _); omega)
       replace jb5 := jb5.keep hk258 (by show ¬ (_ = _); omega)
       replace jb7 := jb7.keep hk258 (by show ¬ (_ = _); omega)
       replace jbs36 := jbs36.keep hk258 (by show ¬ (_ = _); omega)
       replace jbn37 := jbn37.keep hk258 (by show ¬ (_ = _); omega)
       replace hb41_46 := hb41_46.keep hk258 (by show ¬ (_ = _); omega)
       replace hb13 := hb13.keep hk258 (by show ¬ (_ = _); omega)
       replace jA := SlT.keep jA hk258 (fun q hq hs => by have hs : q = b29 := hs; have g0 := hAr q hq; have g1 := ltjA q hq; omega)
       replace jA2 := SlT.keep jA2 hk258 (fun q hq hs => by have hs : q = b29 := hs; have g0 := owA2 q hq; have g1 := ltjA2 q hq; omega)
       replace hA252 := SlT.keep hA252 hk258 (fun q hq hs => by have hs : q = b29 := hs; have g0 := own252 q hq; have g1 := lt252 q hq; omega)
       replace jhl := Led.keep jhl hk258 (fun q hq hs => by have hs : q = b29 := hs; have g0 := hlr q hq; have g1 := hGlt q hq; omega)
       replace jhK0 := Keep.fresh jhK0 hk258 (by intro i hi hs; first | exact hs | exact Or.inl hs | exact Or.inr hs | (exfalso; have hs2 : i = b29 := hs; omega))
       replace hfenb := Keep.fresh hfenb hk258 (by intro i hi hs; have hs2 : i = b29 := hs; show _ ∨ _; omega)
       replace ho230 := Rfr.keep ho230 hk258 (fun q hq hs => by have hs : q = b29 := hs; have g0 := own239 q hq; have g1 := lt238 q hq; omega)
       replace ho233 := VotT.keep ho233 hk258 (fun q hq hs => by have hs : q = b29 := hs; have g0 := own244 q hq; have g1 := lt243 q hq; omega)
       refine OI_end rfl ?_
       refine X_block ?_
       have hq9 := hstp.trans (step_end hc49 hc182)
       rw [endR_set (by omega)] at ho230
       exact fun a _ => ⟨hfenb, A252, cap252, F229, F232, jr, jb1, jb3, jb5, jb7, jbs36, jbn37, jA, jA2, jhl, jhK0, by rw [hq9]; exact hb29_260, by rw [hq9]; exact hA252, by rw [hq9]; exact ho230, by rw [hq9]; exact ho233, own252, (fun q hq => by have h1 := own239 q hq; have h2 := lt238 q hq; omega), rel240, (fun q hq => by have h1 := own244 q hq; have h2 := lt243 q hq; omega), rel245, hdis235, dis242, dis249, dis247, dis246, dis255, dis256⟩
      ·
       refine GI_cell 34 (.tmp 4) 0 (pt r) (some 68) (by kernel_rfl) (by kernel_rfl) (by kernel_rfl) qjb1 (fun hs => by rcases hs with hs | hs; omega; (have h1 := hFko _ hs; omega)) (m := 1) (by kernel_rfl) rfl ?_
       refine GI_cell 33 (.tmp 6) 0 (pt v) (some 69) (by kernel_rfl) (by kernel_rfl) (by kernel_rfl) qjb5 (fun hs => by rcases hs with hs | hs; omega; (have h1 := hFko _ hs; omega)) (m := 1) (by kernel_rfl) rfl ?_
       refine GI_static [5, 6, 7, 0, 8, 9] [(7, pt b7), (10, pt b29), (68, pt r), (69, pt v), (70, nt ((k : Nat) : Int)), (71, nt (decE ts x (tallyT ((svcK ts (tot xs) now r1 ⟨s, r1, []⟩ k).s) ((k : Nat) : Int)) (tot xs) now))] (by kernel_rfl) ?_
       refine GI_cell 3 (.tmp 7) 0 (nt now) (some 72) (by kernel_rfl) (by kernel_rfl) (by kernel_rfl) qjb7 (fun hs => by rcases hs with hs | hs; omega; (have h1 := hFko _ hs; omega)) (m := 1) (by kernel_rfl) rfl ?_
       refine GI_call { callee := (Callee.value (Operand.func 52)), args := #[(Operand.tmp 68), (Operand.tmp 69), (Operand.tmp 70), (Operand.tmp 71), (Operand.tmp 72)], argTypes := #[34, 33, 3, 3, 3] } 52 #[pt r, pt v, nt ((k : Nat) : Int), nt (decE ts x (tallyT ((svcK ts (tot xs) now r1 ⟨s, r1, []⟩ k).s) ((k : Nat) : Int)) (tot xs) now), nt now] (some 73) (by kernel_rfl) (by kernel_rfl) (by kernel_rfl) (by kernel_rfl) (ends_spec H172 r g ts ((svcK ts (tot xs) now r1 ⟨s, r1, []⟩ k).rs.set ((k : Nat) : Int).toNat (decY ts x (tallyT ((svcK ts (tot xs) now r1 ⟨s, r1, []⟩ k).s) ((k : Nat) : Int)) (tot xs) now)) Fk v ((svcK ts (tot xs) now r1 ⟨s, r1, []⟩ k).s) ((k : Nat) : Int) (decE ts x (tallyT ((svcK ts (tot xs) now r1 ⟨s, r1, []⟩ k).s) ((k : Nat) : Int)) (tot xs) now) now _ hR173 jV dis181 (getA_len (by rw [List.length_set]; omega))) ?_
       rintro _ w264 ⟨rfl, ⟨F266, F269, ho267, ho270, hfr268, hfr271, hdis272⟩, hk265⟩
       have K273 := Keep.fresh K188 hk265 (by intro i hi hs; first | exact hs | (rcases hs with hs | hs; (have u0 := hgo i hs; have u1 := hgl i hs; omega); (have u0 := hFko i hs; have u1 := lt40 i hs; omega)))
       refine ⟨_, rfl, K273, ?_⟩
       have hzK273 := Keep.size K273
       have hsz274 := Keep.size hk265
       replace jr := jr.keep hk265 (fun hs => by rcases hs with hs | hs; (have u0 := hgo _ hs; have u1 := hgl _ hs; omega); (have u0 := hFko _ hs; have u1 := lt40 _ hs; omega))
       replace jb1 := jb1.keep hk265 (fun hs => by rcases hs with hs | hs; (have u0 := hgo _ hs; have u1 := hgl _ hs; omega); (have u0 := hFko _ hs; have u1 := lt40 _ hs; omega))
       replace jb3 := jb3.keep hk265 (fun hs => by rcases hs with hs | hs; (have u0 := hgo _ hs; have u1 := hgl _ hs; omega); (have u0 := hFko _ hs; have u1 := lt40 _ hs; omega))
       replace jb5 := jb5.keep hk265 (fun hs => by rcases hs with hs | hs; (have u0 := hgo _ hs; have u1 := hgl _ hs; omega); (have u0 := hFko _ hs; have u1 := lt40 _ hs; omega))
       replace jb7 := jb7.keep hk265 (fun hs => by rcases hs with hs | hs; (have u0 := hgo _ hs; have u1 := hgl _ hs; omega); (have u0 := hFko _ hs; have u1 := lt40 _ hs; omega))
       replace jb29 := jb29.keep hk265 (fun hs => by rcases hs with hs | hs; (have u0 := hgo _ hs; have u1 := hgl _ hs; omega); (have u0 := hFko _ hs; have u1 := lt40 _ hs; omega))
       replace jbs36 := jbs36.keep hk265 (fun hs => by rcases hs with hs | hs; (have u0 := hgo _ hs; have u1 := hgl _ hs; omega); (have u0 := hFko _ hs; have u1 := lt40 _ hs; omega))
       replace jbn37 := jbn37.keep hk265 (fun hs => by rcases hs with hs | hs; (have u0 := hgo _ hs; have u1 := hgl _ hs; omega); (have u0 := hFko _ hs; have u1 := lt40 _ hs; omega))
       replace hb41_46 := hb41_46.keep hk265 (fun hs => by rcases hs with hs | hs; (have u0 := hgo _ hs; have u1 := hgl _ hs; omega); (have u0 := hFko _ hs; have u1 := lt40 _ hs; omega))
       replace hb13 := hb13.keep hk265 (fun hs => by rcases hs with hs | hs; (have u0 := hgo _ hs; have u1 := hgl _ hs; omega); (have u0 := hFko _ hs; have u1 := lt40 _ hs; omega))
       replace jA := SlT.keep jA hk265 (fun q hq hs => by rcases hs with hs | hs; exact (hAo q hq).2.2 hs; exact (fun q h1 h2 => dFA q h2 h1) q hq hs)
       replace jA2 := SlT.keep jA2 hk265 (fun q hq hs => by rcases hs with hs | hs; (have g0 := owA2 q hq; have g1 := ltjA2 q hq; have u9 : q = g := hs; omega); exact (fun q h1 h2 => dFA2 q h2 h1) q hq hs)
       replace jAk := SlT.keep jAk hk265 (fun q hq hs => by rcases hs with hs | hs; exact (fun q h1 h2 => dis179 q h2 h1) q hq (by rw [show q = g from hs]; exact (Rfr.atg hR173)); exact dAkF q hq hs)
       replace jhl := Led.keep jhl hk265 (fun q hq hs => by rcases hs with hs | hs; exact (fun q h1 h2 => dis180 q h2 h1) q hq (by rw [show q = g from hs]; exact (Rfr.atg hR173)); exact (fun q h1 h2 => dFG q h2 h1) q hq hs)
       replace jhK0 := Keep.fresh jhK0 hk265 (fun i hi hs => by rcases hs with hs | hs; (exact .inl hs); (rcases hFkr i hs with h | h; exact .inr <| h; (exfalso; omega)))
       replace hfenb := Keep.fresh hfenb hk265 (by intro i hi hs; rcases hs with hs | hs; (have u0 := hgo i hs; have u1 := hgl i hs; show _ ∨ _; omega); (have u0 := hFko i hs; have u1 := lt40 i hs; show _ ∨ _; omega))
       have own276 : ∀ q, F266 q → (q < w33.heap.size ∨ M1 ≤ q) ∧ q ≠ b1 ∧ q ≠ b3 ∧ q ≠ b5 ∧ q ≠ b7 ∧ q ≠ b29 ∧ q ≠ bs36 ∧ q ≠ bn37 ∧ q ≠ b41 ∧ q ≠ b13 := fun q hq => by rcases hfr268 q hq with h | h; (have h1 := own177 q h; have h2 := lt176 q h; omega); omega
       have lt275 := Rfr.lt ho267
       have rel277 : ∀ q, F266 q → H q ∨ w.heap.size ≤ q := fun q hq => by rcases hfr268 q hq with h | h; exact rel178 q h; exact .inr (by omega)
       have dis278 : ∀ q, F266 q → ¬ inA Ak q := fun q h1 h2 => by rcases hfr268 q h1 with h | h; exact dis179 q h h2; (have h4 := ltjAk q h2; omega)
       have dis279 : ∀ q, F266 q → ¬ G q := fun q h1 h2 => by rcases hfr268 q h1 with h | h; exact dis180 q h h2; (have h4 := hGlt q h2; omega)
       have own281 : ∀ q, F269 q → (q < w33.heap.size ∨ M1 ≤ q) ∧ q ≠ r ∧ q ≠ b1 ∧ q ≠ b3 ∧ q ≠ b5 ∧ q ≠ b7 ∧ q ≠ b29 ∧ q ≠ bs36 ∧ q ≠ bn37 ∧ q ≠ b41 ∧ q ≠ b13 := fun q hq => by rcases hfr271 q hq with h | h; (have h1 := hFko q h; have h2 := lt40 q h; omega); omega
       have lt280 := VotT.lt ho270
       have rel282 : ∀ q, F269 q → F q ∨ w.heap.size ≤ q := fun q hq => by rcases hfr271 q hq with h | h; exact hFkr q h; exact .inr (by omega)
       have dis283 : ∀ q, F269 q → ¬ inA A q := fun q h1 h2 => by rcases hfr271 q h1 with h | h; exact dFA q h h2; (have h4 := ltjA q h2; omega)
       have dis284 : ∀ q, F269 q → ¬ inA A2 q := fun q h1 h2 => by rcases hfr271 q h1 with h | h; exact dFA2 q h h2; (have h4 := ltjA2 q h2; omega)
       have dis285 : ∀ q, F269 q → ¬ inA Ak q := fun q h1 h2 => by rcases hfr271 q h1 with h | h; exact (fun q h1 h2 => dAkF q h2 h1) q h h2; (have h4 := ltjAk q h2; omega)
       have dis286 : ∀ q, F269 q → ¬ G q := fun q h1 h2 => by rcases hfr271 q h1 with h | h; exact dFG q h h2; (have h4 := hGlt q h2; omega)
       refine GI_slit (E := 53) (zv := .agg #[nt 0, nt 0, nt 0]) (sz := 3) (by_ := 24) 50 1 #[(0, (Operand.tmp 73))] [.agg (Evt.cells (Evt.mk 1 ((k : Nat) : Int) (decE ts x (tallyT ((svcK ts (tot xs) now r1 ⟨s, r1, []⟩ k).s) ((k : Nat) : Int)) (tot xs) now))).toArray] (Evt.cells (Evt.mk 1 ((k : Nat) : Int) (decE ts x (tallyT ((svcK ts (tot xs) now r1 ⟨s, r1, []⟩ k).s) ((k : Nat) : Int)) (tot xs) now))) (some 74) (by kernel_rfl) (by kernel_rfl) K273 (by kernel_rfl) (by kernel_rfl) (by omega) rfl (by omega) (by intro v hv; obtain rfl := List.mem_singleton.1 hv; show (Evt.cells (Evt.mk 1 ((k : Nat) : Int) (decE ts x (tallyT ((svcK ts (tot xs) now r1 ⟨s, r1, []⟩ k).s) ((k : Nat) : Int)) (tot xs) now))).toArray.size = 3; simp [Evt.len]) (by kernel_rfl) (by show (Evt.cells (Evt.mk 1 ((k : Nat) : Int) (decE ts x (tallyT ((svcK ts (tot xs) now r1 ⟨s, r1, []⟩ k).s) ((k : Nat) : Int)) (tot xs) now))).toArray.toList ++ [] = _; simp) ?_
       intro b287 w287 e287 hb287 k287 z287 K288
       have hsz289 := Keep.size k287
       replace jr := jr.keep k287 (fun f => f)
       replace jb1 := jb1.keep k287 (fun f => f)
       replace jb3 := jb3.keep k287 (fun f => f)
       replace jb5 := jb5.keep k287 (fun f => f)
       replace jb7 := jb7.keep k287 (fun f => f)
       replace jb29 := jb29.keep k287 (fun f => f)
       replace jbs36 := jbs36.keep k287 (fun f => f)
       replace jbn37 := jbn37.keep k287 (fun f => f)
       replace hb41_46 := hb41_46.keep k287 (fun f => f)
       replace hb13 := hb13.keep k287 (fun f => f)
       replace jA := SlT.keep0 jA k287
       replace jA2 := SlT.keep0 jA2 k287
       replace jAk := SlT.keep0 jAk k287
       replace jhl := Led.keep jhl k287 (fun _ _ f => f)
       replace jhK0 := Keep.tr jhK0 (Keep.ofNone k287)
       replace hfenb := Keep.tr hfenb (Keep.ofNone k287)
       replace ho267 := Rfr.keep ho267 k287 (fun _ _ f => f)
       replace ho270 := VotT.keep ho270 k287 (fun _ _ f => f)
       have hb287lt := hb287.lt
       refine GI_cellA 50 (.tmp 10) 0 (.slice Ak ((svcK ts (tot xs) now r1 ⟨s, r1, []⟩ k).out.length) capk) (some 67) (by kernel_rfl) (by kernel_rfl) K288 (by kernel_rfl) jb29 (m := 1) (by kernel_rfl) rfl ?_
       refine GI_final 8 (by kernel_rfl) (by kernel_rfl) ?_
       refine OI_append (t := 50) (at2 := 50) (E := 53) (E2 := 53) (sz := 3) (by_ := 24) (zv := .agg #[nt 0, nt 0, nt 0]) (m := ((svcK ts (tot xs) now r1 ⟨s, r1, []⟩ k).out).length) (k := 1) (.tmp 67) (.tmp 74) (.slice Ak ((svcK ts (tot xs) now r1 ⟨s, r1, []⟩ k).out.length) capk) (.slice (some ⟨b287, 0, none⟩) 1 1) (some 75) (by kernel_rfl) (by kernel_rfl) (by kernel_rfl) (by kernel_rfl) (by kernel_rfl) (by kernel_rfl) (by kernel_rfl) (SlT.slr jAk) (slr_one hb287 (Evt.len ((Evt.mk 1 ((k : Nat) : Int) (decE ts x (tallyT ((svcK ts (tot xs) now r1 ⟨s, r1, []⟩ k).s) ((k : Nat) : Int)) (tot xs) now))))) (Evt.one ((Evt.mk 1 ((k : Nat) : Int) (decE ts x (tallyT ((svcK ts (tot xs) now r1 ⟨s, r1, []⟩ k).s) ((k : Nat) : Int)) (tot xs) now)))) (by first | omega | (simp only [List.length_nil]; omega)) (by omega) (by first | omega | (simp only [List.length_nil]; omega)) (by omega) ?_
       intro vv9 w290 hap
       obtain ⟨A290, cap290, rfl, hA290, hk290, own290x⟩ := app_one (f := Evt.cells) (xs := ((svcK ts (tot xs) now r1 ⟨s, r1, []⟩ k).out)) (x := ((Evt.mk 1 ((k : Nat) : Int) (decE ts x (tallyT ((svcK ts (tot xs) now r1 ⟨s, r1, []⟩ k).s) ((k : Nat) : Int)) (tot xs) now)))) (A := Ak) (cap := capk) hap (fun x _ => Evt.len x) (Evt.len _)
       have own290 : ∀ q, inA A290 q → M1 ≤ q := fun q hq => by rcases own290x q hq with h | h; exact ownk q h; (show M1 ≤ q; omega)
       have hsz291 := Keep.size hk290
       replace jr := jr.keep hk290 (fun hs => by have h1 := ownk _ hs; have h2 := ltjAk _ hs; omega)
       replace jb1 := jb1.keep hk290 (fun hs => by have h1 := ownk _ hs; have h2 := ltjAk _ hs; omega)
       replace jb3 := jb3.keep hk290 (fun hs => by have h1 := ownk _ hs; have h2 := ltjAk _ hs; omega)
       replace jb5 := jb5.keep hk290 (fun hs => by have h1 := ownk _ hs; have h2 := ltjAk _ hs; omega)
       replace jb7 := jb7.keep hk290 (fun hs => by have h1 := ownk _ hs; have h2 := ltjAk _ hs; omega)
       replace jb29 := jb29.keep hk290 (fun hs => by have h1 := ownk _ hs; have h2 := ltjAk _ hs; omega)
       replace jbs36 := jbs36.keep hk290 (fun hs => by have h1 := ownk _ hs; have h2 := ltjAk _ hs; omega)
       replace jbn37 := jbn37.keep hk290 (fun hs => by have h1 := ownk _ hs; have h2 := ltjAk _ hs; omega)
       replace hb41_46 := hb41_46.keep hk290 (fun hs => by have h1 := ownk _ hs; have h2 := ltjAk _ hs; omega)
       replace hb13 := hb13.keep hk290 (fun hs => by have h1 := ownk _ hs; have h2 := ltjAk _ hs; omega)
       replace jA := SlT.keep jA hk290 (fun q hq hs => by have g0 := hAr q hq; have g1 := ltjA q hq; have h1 := ownk q hs; have h2 := ltjAk q hs; omega)
       replace jA2 := SlT.keep jA2 hk290 (fun q hq hs => by have g0 := owA2 q hq; have g1 := ltjA2 q hq; have h1 := ownk q hs; have h2 := ltjAk q hs; omega)
       replace jhl := Led.keep jhl hk290 (fun q hq hs => (fun (q : Nat) (h1 : inA Ak q) (h2 : G q) => by have h3 := ownk q h1; have h4 := hGlt q h2; omega) q hs hq)
       replace jhK0 := Keep.fresh jhK0 hk290 (by intro i hi hs; first | exact hs | (exfalso; have h1 := ownk i hs; have h2 := ltjAk i hs; omega) | (have h1 := ownk i hs; have h2 := ltjAk i hs; show _ ∨ _; omega))
       replace hfenb := Keep.fresh hfenb hk290 (by intro i hi hs; have h1 := ownk i hs; have h2 := ltjAk i hs; show _ ∨ _; omega)
       replace ho267 := Rfr.keep ho267 hk290 (fun q hq hs => (fun q h1 h2 => dis278 q h2 h1) q hs hq)
       replace ho270 := VotT.keep ho270 hk290 (fun q hq hs => (fun q h1 h2 => dis285 q h2 h1) q hs hq)
       have lt290 := SlT.lt hA290
       have dis292 : ∀ q, inA A290 q → ¬ G q := fun q h1 h2 => by rcases own290x q h1 with h | h; exact (fun (q : Nat) (h1 : G q) (h2 : inA Ak q) => by have h3 := ownk q h2; have h4 := hGlt q h1; omega) q h2 h; (have h4 := hGlt q h2; omega)
       have dis293 : ∀ q, inA A290 q → ¬ F266 q := fun q h1 h2 => by rcases own290x q h1 with h | h; exact dis278 q h2 h; (have h4 := lt275 q h2; omega)
       have dis294 : ∀ q, inA A290 q → ¬ F269 q := fun q h1 h2 => by rcases own290x q h1 with h | h; exact dis285 q h2 h; (have h4 := lt280 q h2; omega)
       refine OI_set (m := 1) (kd := false) 50 (.tmp 10) (.tmp 75) 0 (.slice A290 (((svcK ts (tot xs) now r1 ⟨s, r1, []⟩ k).out ++ [((Evt.mk 1 ((k : Nat) : Int) (decE ts x (tallyT ((svcK ts (tot xs) now r1 ⟨s, r1, []⟩ k).s) ((k : Nat) : Int)) (tot xs) now)))]).length) cap290) [.slice A290 (((svcK ts (tot xs) now r1 ⟨s, r1, []⟩ k).out ++ [((Evt.mk 1 ((k : Nat) : Int) (decE ts x (tallyT ((svcK ts (tot xs) now r1 ⟨s, r1, []⟩ k).s) ((k : Nat) : Int)) (tot xs) now)))]).length) cap290] none (by kernel_rfl) (by kernel_rfl) (by kernel_rfl) jb29 (by kernel_rfl) (by kernel_rfl) (by kernel_rfl) (Nat.le_of_ble_eq_true (by kernel_rfl)) (by simp [Value.oneCell']) ?_
       intro w295 hb29_298 hk296 hz297
       replace hb29_298 : Blk w295 b29 [.slice A290 (((svcK ts (tot xs) now r1 ⟨s, r1, []⟩ k).out ++ [((Evt.mk 1 ((k : Nat) : Int) (decE ts x (tallyT ((svcK ts (tot xs) now r1 ⟨s, r1, []⟩ k).s) ((k : Nat) : Int)) (tot xs) now)))]).length) cap290] 50 := hb29_298
       have hsz299 := Keep.size hk296
       replace jr := jr.keep hk296 (by show ¬ (_ = _); omega)
       replace jb1 := jb1.keep hk296 (by show ¬ (_ = _); omega)
       replace jb3 := jb3.keep hk296 (by show ¬ (_ = _); omega)
       replace jb5 := jb5.keep hk296 (by show ¬ (_ = _); omega)
       replace jb7 := jb7.keep hk296 (by show ¬ (_ = _); omega)
       replace jbs36 := jbs36.keep hk296 (by show ¬ (_ = _); omega)
       replace jbn37 := jbn37.keep hk296 (by show ¬ (_ = _); omega)
       replace hb41_46 := hb41_46.keep hk296 (by show ¬ (_ = _); omega)
       replace hb13 := hb13.keep hk296 (by show ¬ (_ = _); omega)
       replace jA := SlT.keep jA hk296 (fun q hq hs => by have hs : q = b29 := hs; have g0 := hAr q hq; have g1 := ltjA q hq; omega)
       replace jA2 := SlT.keep jA2 hk296 (fun q hq hs => by have hs : q = b29 := hs; have g0 := owA2 q hq; have g1 := ltjA2 q hq; omega)
       replace hA290 := SlT.keep hA290 hk296 (fun q hq hs => by have hs : q = b29 := hs; have g0 := own290 q hq; have g1 := lt290 q hq; omega)
       replace jhl := Led.keep jhl hk296 (fun q hq hs => by have hs : q = b29 := hs; have g0 := hlr q hq; have g1 := hGlt q hq; omega)
       replace jhK0 := Keep.fresh jhK0 hk296 (by intro i hi hs; first | exact hs | exact Or.inl hs | exact Or.inr hs | (exfalso; have hs2 : i = b29 := hs; omega))
       replace hfenb := Keep.fresh hfenb hk296 (by intro i hi hs; have hs2 : i = b29 := hs; show _ ∨ _; omega)
       replace ho267 := Rfr.keep ho267 hk296 (fun q hq hs => by have hs : q = b29 := hs; have g0 := own276 q hq; have g1 := lt275 q hq; omega)
       replace ho270 := VotT.keep ho270 hk296 (fun q hq hs => by have hs : q = b29 := hs; have g0 := own281 q hq; have g1 := lt280 q hq; omega)
       refine OI_end rfl ?_
       refine X_block ?_
       have hq9 := hstp.trans (step_end hc49 hc182)
       rw [endR_set (by omega)] at ho267
       exact fun a _ => ⟨hfenb, A290, cap290, F266, F269, jr, jb1, jb3, jb5, jb7, jbs36, jbn37, jA, jA2, jhl, jhK0, by rw [hq9]; exact hb29_298, by rw [hq9]; exact hA290, by rw [hq9]; exact ho267, by rw [hq9]; exact ho270, own290, (fun q hq => by have h1 := own276 q hq; have h2 := lt275 q hq; omega), rel277, (fun q hq => by have h1 := own281 q hq; have h2 := lt280 q hq; omega), rel282, hdis272, dis279, dis286, dis284, dis283, dis293, dis294⟩
     ·
      refine V_skip ?_
      refine X_block ?_
      have hq9 := hstp.trans (step_on hc49 hc182)
      exact fun a _ => ⟨hfenb, Ak, capk, H172, Fk, jr, jb1, jb3, jb5, jb7, jbs36, jbn37, jA, jA2, jhl, jhK0, by rw [hq9]; exact jb29, by rw [hq9]; exact jAk, by rw [hq9]; exact hR173, by rw [hq9]; exact jV, ownk, (fun q hq => by have h1 := own177 q hq; have h2 := lt176 q hq; omega), rel178, (fun q hq => by have h1 := hFko q hq; have h2 := lt40 q hq; omega), hFkr, dis181, dis180, dFG, dFA2, dFA, (fun q h1 h2 => dis179 q h2 h1), dAkF⟩
  ·
   intro D M1 W hD hM ⟨Ak, capk, Hk, Fk, jr, jb1, jb3, jb5, jb7, jbs36, jbn37, jA, jA2, jhl, jhK0, jb29, jAk, jR, jV, ownk, hHko, hHkr, hFko, hFkr, dHF, dHG, dFG, dFA2, dFA, dAkH, dAkF⟩ hDD
   have hzjhK0 := Keep.size jhK0
   have hrlt := jr.lt
   have hb1lt := jb1.lt
   have hb3lt := jb3.lt
   have hb5lt := jb5.lt
   have hb7lt := jb7.lt
   have hb29lt := jb29.lt
   have hbs36lt := jbs36.lt
   have hbn37lt := jbn37.lt
   have ltjA := SlT.lt jA
   have ltjA2 := SlT.lt jA2
   have ltjAk := SlT.lt jAk
   have lt300 := Rfr.lt jR
   have lt301 := VotT.lt jV
   refine X_block ?_
   refine X_then ?_
   refine V_seq ?_
   refine V_region ?_
   refine OI_cell 50 (.tmp 10) 0 (.slice Ak ((svcK ts (tot xs) now r1 ⟨s, r1, []⟩ r1.length).out.length) capk) (some 76) (by kernel_rfl) (by kernel_rfl) jb29 (m := 1) (by kernel_rfl) rfl ?_
   refine OI_static 2 [(8, .slice Ak ((svcK ts (tot xs) now r1 ⟨s, r1, []⟩ r1.length).out.length) capk)] (by kernel_rfl) ?_
   refine OI_end rfl ?_
   refine X_then ?_
   refine V_ret ?_
   have hfin : svcQ ts xs s rs now = svcK ts (tot xs) now r1 ⟨s, r1, []⟩ r1.length := by unfold svcQ; rw [← hr1, hr1l]
   exact leave1 (.slice Ak (svcK ts (tot xs) now r1 ⟨s, r1, []⟩ r1.length).out.length capk) (.inl rfl) hDD (fun w' hk => ⟨res_tmps rfl, ⟨Ak, capk, by rw [hfin], by rw [hfin]; exact SlT.quiet jAk hk, (fun q h => by have h1 := ownk q h; omega), ⟨Hk, Fk, by rw [hfin]; exact Rfr.quiet jR hk, by rw [hfin]; exact VotT.quiet jV hk, hHkr, hFkr, dHF, dAkH, dAkF⟩, Keep.quiet jhK0 hk (by omega)⟩⟩)
end Go.Al


namespace Go.Al
open Go Go.RowKit Go.Proofs
set_option maxRecDepth 10000 in
theorem r4In_spec (n lo hi : Int) (w : World) : Calls Tryz.prog 168 #[.int .i64 n, .int .i64 lo, .int .i64 hi] w fun e w' => e = .returned (.bool (decide (lo ≤ n ∧ n ≤ hi))) ∧ w' = w := by
 refine enterV Tryz.func168 rfl [nt n, nt lo, nt hi] 15 rfl rfl rfl ?_
 refine V_pick [(0, nt n), (1, nt lo), (2, nt hi)] rfl ?_
 refine V_seq ?_
 refine V_region ?_
 refine OI_static 1 [(0, nt n), (1, nt lo), (2, nt hi)] (by kernel_rfl) ?_
 refine OI_end rfl ?_
 refine X_then ?_
 refine V_seq ?_
 refine V_region ?_
 refine OI_static 4 [(0, nt n), (2, nt hi), (10, .bool (decide (n ≥ lo)))] (by kernel_rfl) ?_
 by_cases hg1 : n ≥ lo
 ·
  refine OI_eq [(0, nt n), (2, nt hi), (10, .bool true)] (by first | simp [hg1] | rfl) ?_
  refine OI_static 9 [(6, .bool (decide (n ≤ hi)))] (by kernel_rfl) ?_
  refine OI_end rfl ?_
  refine X_then ?_
  refine V_ret ?_
  exact X_return (.bool (decide (n ≤ hi))) rfl ⟨by congr 2; simp only [Bool.decide_and]; by_cases h1 : lo ≤ n <;> simp [h1] <;> omega, rfl⟩
 ·
  refine OI_eq [(0, nt n), (2, nt hi), (10, .bool false)] (by first | simp [hg1] | rfl) ?_
  refine OI_static 9 [(6, .bool false)] (by kernel_rfl) ?_
  refine OI_end rfl ?_
  refine X_then ?_
  refine V_ret ?_
  exact X_return (.bool false) rfl ⟨by congr 2; simp only [Bool.decide_and]; by_cases h1 : lo ≤ n <;> simp [h1] <;> omega, rfl⟩

set_option maxRecDepth 10000 in
theorem r10In_spec (n lo hi : Int) (w : World) : Calls Tryz.prog 118 #[.int .i64 n, .int .i64 lo, .int .i64 hi] w fun e w' => e = .returned (.bool (decide (lo ≤ n ∧ n ≤ hi))) ∧ w' = w := by
 refine enterV Tryz.func118 rfl [nt n, nt lo, nt hi] 15 rfl rfl rfl ?_
 refine V_pick [(0, nt n), (1, nt lo), (2, nt hi)] rfl ?_
 refine V_seq ?_
 refine V_region ?_
 refine OI_static 1 [(0, nt n), (1, nt lo), (2, nt hi)] (by kernel_rfl) ?_
 refine OI_end rfl ?_
 refine X_then ?_
 refine V_seq ?_
 refine V_region ?_
 refine OI_static 4 [(0, nt n), (2, nt hi), (10, .bool (decide (n ≥ lo)))] (by kernel_rfl) ?_
 by_cases hg1 : n ≥ lo
 ·
  refine OI_eq [(0, nt n), (2, nt hi), (10, .bool true)] (by first | simp [hg1] | rfl) ?_
  refine OI_static 9 [(6, .bool (decide (n ≤ hi)))] (by kernel_rfl) ?_
  refine OI_end rfl ?_
  refine X_then ?_
  refine V_ret ?_
  exact X_return (.bool (decide (n ≤ hi))) rfl ⟨by congr 2; simp only [Bool.decide_and]; by_cases h1 : lo ≤ n <;> simp [h1] <;> omega, rfl⟩
 ·
  refine OI_eq [(0, nt n), (2, nt hi), (10, .bool false)] (by first | simp [hg1] | rfl) ?_
  refine OI_static 9 [(6, .bool false)] (by kernel_rfl) ?_
  refine OI_end rfl ?_
  refine X_then ?_
  refine V_ret ?_
  exact X_return (.bool false) rfl ⟨by congr 2; simp only [Bool.decide_and]; by_cases h1 : lo ≤ n <;> simp [h1] <;> omega, rfl⟩

set_option maxRecDepth 10000 in
theorem r4Is_spec (c : Crv) (w : World) : Calls Tryz.prog 119 #[.agg c.cells.toArray] w fun e w' => e = .returned (.bool (decide (okCrv c))) ∧ Keep none_ w w' := by
 have hK0 : Keep none_ w w := Keep.refl _ _
 have hzhK0 := Keep.size hK0
 refine enterV Tryz.func119 rfl [.agg (Crv.cells c).toArray] 69 rfl rfl rfl ?_
 refine V_pick [(0, .agg (Crv.cells c).toArray)] rfl ?_
 refine V_seq ?_
 refine V_region ?_
 refine OI_box 25 (.tmp 0) (.agg (Crv.cells c).toArray) (Crv.cells c) (some 1) (by kernel_rfl) (by kernel_rfl) rfl ?_
 intro b1 w1 e1 hb1 k1 z1
 have hsz2 := Keep.size k1
 replace hK0 := Keep.tr hK0 (Keep.ofNone k1)
 have hb1lt := hb1.lt
 refine OI_static 2 [(1, pt b1)] (by kernel_rfl) ?_
 refine OI_end rfl ?_
 refine X_then ?_
 refine V_seq ?_
 refine V_seq ?_
 refine V_region ?_
 refine OI_static 1 [(1, pt b1), (3, pt b1)] (by kernel_rfl) ?_
 refine OI_cell 3 (.tmp 3) 0 (nt c.k) (some 4) (by kernel_rfl) (by kernel_rfl) hb1 (m := 1) (by kernel_rfl) rfl ?_
 refine OI_end rfl ?_
 refine X_then ?_
 refine V_block ?_
 refine V_seq ?_
 refine V_region ?_
 refine OI_static 2 [(1, pt b1), (4, nt c.k), (5, .bool (decide (c.k = 1)))] (by kernel_rfl) ?_
 refine OI_end rfl ?_
 refine X_then ?_
 refine V_if (c.k = 1) (by kernel_rfl) (fun hc3 => ?_) (fun hc3 => ?_)
 ·
  refine V_seq ?_
  refine V_region ?_
  refine OI_static 1 [(1, pt b1), (7, .pointer (some ⟨b1, 1, none⟩))] (by kernel_rfl) ?_
  refine OI_cell 3 (.tmp 7) 1 (nt c.a) (some 8) (by kernel_rfl) (by kernel_rfl) hb1 (m := 1) (by kernel_rfl) rfl ?_
  refine OI_call { callee := (Callee.value (Operand.func 168)), args := #[(Operand.tmp 8), (Operand.const (Value.int IntKind.i64 0)), (Operand.const (Value.int IntKind.i64 1000000000))], argTypes := #[3, 3, 3] } 168 #[nt c.a, nt 0, nt 1000000000] (some 9) (by kernel_rfl) (by kernel_rfl) (by kernel_rfl) (r4In_spec c.a 0 1000000000 _) ?_
  rintro _ w1 ⟨rfl, rfl⟩
  refine ⟨_, rfl, ?_⟩
  refine OI_static 4 [(1, pt b1), (10, .bool (decide ((0 : Int) ≤ c.a ∧ c.a ≤ 1000000000)))] (by kernel_rfl) ?_
  by_cases hg7 : (0 : Int) ≤ c.a ∧ c.a ≤ 1000000000
  ·
   refine OI_eq [(1, pt b1), (10, .bool true)] (by first | simp [hg7] | rfl) ?_
   refine OI_static 5 [(1, pt b1), (10, .bool true), (11, .pointer (some ⟨b1, 2, none⟩))] (by kernel_rfl) ?_
   refine OI_cell 3 (.tmp 11) 2 (nt c.b) (some 12) (by kernel_rfl) (by kernel_rfl) hb1 (m := 1) (by kernel_rfl) rfl ?_
   refine OI_static 7 [(1, pt b1), (10, .bool true), (12, nt c.b), (13, .pointer (some ⟨b1, 1, none⟩))] (by kernel_rfl) ?_
   refine OI_cell 3 (.tmp 13) 1 (nt c.a) (some 14) (by kernel_rfl) (by kernel_rfl) hb1 (m := 1) (by kernel_rfl) rfl ?_
   refine OI_call { callee := (Callee.value (Operand.func 168)), args := #[(Operand.tmp 12), (Operand.const (Value.int IntKind.i64 0)), (Operand.tmp 14)], argTypes := #[3, 3, 3] } 168 #[nt c.b, nt 0, nt c.a] (some 15) (by kernel_rfl) (by kernel_rfl) (by kernel_rfl) (r4In_spec c.b 0 c.a _) ?_
   rintro _ w1 ⟨rfl, rfl⟩
   refine ⟨_, rfl, ?_⟩
   refine OI_static 11 [(1, pt b1), (17, .bool (decide ((0 : Int) ≤ c.b ∧ c.b ≤ c.a)))] (by kernel_rfl) ?_
   by_cases hg11 : (0 : Int) ≤ c.b ∧ c.b ≤ c.a
   ·
    refine OI_eq [(1, pt b1), (17, .bool true)] (by first | simp [hg11] | rfl) ?_
    refine OI_static 12 [(1, pt b1), (17, .bool true), (18, .pointer (some ⟨b1, 3, none⟩))] (by kernel_rfl) ?_
    refine OI_cell 3 (.tmp 18) 3 (nt c.c) (some 19) (by kernel_rfl) (by kernel_rfl) hb1 (m := 1) (by kernel_rfl) rfl ?_
    refine OI_call { callee := (Callee.value (Operand.func 168)), args := #[(Operand.tmp 19), (Operand.const (Value.int IntKind.i64 1)), (Operand.const (Value.int IntKind.i64 1000000000))], argTypes := #[3, 3, 3] } 168 #[nt c.c, nt 1, nt 1000000000] (some 20) (by kernel_rfl) (by kernel_rfl) (by kernel_rfl) (r4In_spec c.c 1 1000000000 _) ?_
    rintro _ w1 ⟨rfl, rfl⟩
    refine ⟨_, rfl, ?_⟩
    refine OI_static 16 [(1, pt b1), (22, .bool (decide ((1 : Int) ≤ c.c ∧ c.c ≤ 1000000000)))] (by kernel_rfl) ?_
    by_cases hg15 : (1 : Int) ≤ c.c ∧ c.c ≤ 1000000000
    ·
     refine OI_eq [(1, pt b1), (22, .bool true)] (by first | simp [hg15] | rfl) ?_
     refine OI_static 17 [(22, .bool true), (23, .pointer (some ⟨b1, 4, none⟩))] (by kernel_rfl) ?_
     refine OI_cell 3 (.tmp 23) 4 (nt c.d) (some 24) (by kernel_rfl) (by kernel_rfl) hb1 (m := 1) (by kernel_rfl) rfl ?_
     refine OI_static 21 [(2, .bool (decide (c.d = 0)))] (by kernel_rfl) ?_
     refine OI_end rfl ?_
     refine X_then ?_
     refine V_ret ?_
     refine X_ret_block ?_
     refine X_ret_then ?_
     exact X_return (.bool (decide (c.d = 0))) rfl ⟨by congr 2; first | (apply Eq.symm; simp only [decide_eq_true_eq, decide_eq_false_iff_not]; unfold okCrv fallsC; simp_all <;> omega) | (rw [decide_eq_decide]; unfold okCrv fallsC; simp_all <;> omega), hK0⟩
    ·
     refine OI_eq [(1, pt b1), (22, .bool false)] (by first | simp [hg15] | rfl) ?_
     refine OI_static 21 [(2, .bool false)] (by kernel_rfl) ?_
     refine OI_end rfl ?_
     refine X_then ?_
     refine V_ret ?_
     refine X_ret_block ?_
     refine X_ret_then ?_
     exact X_return (.bool false) rfl ⟨by congr 2; first | (apply Eq.symm; simp only [decide_eq_true_eq, decide_eq_false_iff_not]; unfold okCrv fallsC; simp_all <;> omega) | (rw [decide_eq_decide]; unfold okCrv fallsC; simp_all <;> omega), hK0⟩
   ·
    refine OI_eq [(1, pt b1), (17, .bool false)] (by first | simp [hg11] | rfl) ?_
    refine OI_static 21 [(2, .bool false)] (by kernel_rfl) ?_
    refine OI_end rfl ?_
    refine X_then ?_
    refine V_ret ?_
    refine X_ret_block ?_
    refine X_ret_then ?_
    exact X_return (.bool false) rfl ⟨by congr 2; first | (apply Eq.symm; simp only [decide_eq_true_eq, decide_eq_false_iff_not]; unfold okCrv fallsC; simp_all <;> omega) | (rw [decide_eq_decide]; unfold okCrv fallsC; simp_all <;> omega), hK0⟩
  ·
   refine OI_eq [(1, pt b1), (10, .bool false)] (by first | simp [hg7] | rfl) ?_
   refine OI_static 21 [(2, .bool false)] (by kernel_rfl) ?_
   refine OI_end rfl ?_
   refine X_then ?_
   refine V_ret ?_
   refine X_ret_block ?_
   refine X_ret_then ?_
   exact X_return (.bool false) rfl ⟨by congr 2; first | (apply Eq.symm; simp only [decide_eq_true_eq, decide_eq_false_iff_not]; unfold okCrv fallsC; simp_all <;> omega) | (rw [decide_eq_decide]; unfold okCrv fallsC; simp_all <;> omega), hK0⟩
 ·
  refine V_seq ?_
  refine V_region ?_
  refine OI_static 2 [(1, pt b1), (4, nt c.k), (27, .bool (decide (c.k = 2)))] (by kernel_rfl) ?_
  refine OI_end rfl ?_
  refine X_then ?_
  refine V_if (c.k = 2) (by kernel_rfl) (fun hc16 => ?_) (fun hc16 => ?_)
  ·
   refine V_seq ?_
   refine V_region ?_
   refine OI_static 1 [(1, pt b1), (29, .pointer (some ⟨b1, 1, none⟩))] (by kernel_rfl) ?_
   refine OI_cell 3 (.tmp 29) 1 (nt c.a) (some 30) (by kernel_rfl) (by kernel_rfl) hb1 (m := 1) (by kernel_rfl) rfl ?_
   refine OI_call { callee := (Callee.value (Operand.func 168)), args := #[(Operand.tmp 30), (Operand.const (Value.int IntKind.i64 0)), (Operand.const (Value.int IntKind.i64 1000000000))], argTypes := #[3, 3, 3] } 168 #[nt c.a, nt 0, nt 1000000000] (some 31) (by kernel_rfl) (by kernel_rfl) (by kernel_rfl) (r4In_spec c.a 0 1000000000 _) ?_
   rintro _ w1 ⟨rfl, rfl⟩
   refine ⟨_, rfl, ?_⟩
   refine OI_static 4 [(1, pt b1), (32, .bool (decide ((0 : Int) ≤ c.a ∧ c.a ≤ 1000000000)))] (by kernel_rfl) ?_
   by_cases hg20 : (0 : Int) ≤ c.a ∧ c.a ≤ 1000000000
   ·
    refine OI_eq [(1, pt b1), (32, .bool true)] (by first | simp [hg20] | rfl) ?_
    refine OI_static 5 [(1, pt b1), (32, .bool true), (33, .pointer (some ⟨b1, 2, none⟩))] (by kernel_rfl) ?_
    refine OI_cell 3 (.tmp 33) 2 (nt c.b) (some 34) (by kernel_rfl) (by kernel_rfl) hb1 (m := 1) (by kernel_rfl) rfl ?_
    refine OI_static 7 [(1, pt b1), (32, .bool true), (34, nt c.b), (35, .pointer (some ⟨b1, 1, none⟩))] (by kernel_rfl) ?_
    refine OI_cell 3 (.tmp 35) 1 (nt c.a) (some 36) (by kernel_rfl) (by kernel_rfl) hb1 (m := 1) (by kernel_rfl) rfl ?_
    refine OI_call { callee := (Callee.value (Operand.func 168)), args := #[(Operand.tmp 34), (Operand.const (Value.int IntKind.i64 0)), (Operand.tmp 36)], argTypes := #[3, 3, 3] } 168 #[nt c.b, nt 0, nt c.a] (some 37) (by kernel_rfl) (by kernel_rfl) (by kernel_rfl) (r4In_spec c.b 0 c.a _) ?_
    rintro _ w1 ⟨rfl, rfl⟩
    refine ⟨_, rfl, ?_⟩
    refine OI_static 11 [(1, pt b1), (39, .bool (decide ((0 : Int) ≤ c.b ∧ c.b ≤ c.a)))] (by kernel_rfl) ?_
    by_cases hg24 : (0 : Int) ≤ c.b ∧ c.b ≤ c.a
    ·
     refine OI_eq [(1, pt b1), (39, .bool true)] (by first | simp [hg24] | rfl) ?_
     refine OI_static 12 [(1, pt b1), (39, .bool true), (40, .pointer (some ⟨b1, 3, none⟩))] (by kernel_rfl) ?_
     refine OI_cell 3 (.tmp 40) 3 (nt c.c) (some 41) (by kernel_rfl) (by kernel_rfl) hb1 (m := 1) (by kernel_rfl) rfl ?_
     refine OI_call { callee := (Callee.value (Operand.func 168)), args := #[(Operand.tmp 41), (Operand.const (Value.int IntKind.i64 1)), (Operand.const (Value.int IntKind.i64 1000000000))], argTypes := #[3, 3, 3] } 168 #[nt c.c, nt 1, nt 1000000000] (some 42) (by kernel_rfl) (by kernel_rfl) (by kernel_rfl) (r4In_spec c.c 1 1000000000 _) ?_
     rintro _ w1 ⟨rfl, rfl⟩
     refine ⟨_, rfl, ?_⟩
     refine OI_static 16 [(1, pt b1), (44, .bool (decide ((1 : Int) ≤ c.c ∧ c.c ≤ 1000000000)))] (by kernel_rfl) ?_
     by_cases hg28 : (1 : Int) ≤ c.c ∧ c.c ≤ 1000000000
     ·
      refine OI_eq [(1, pt b1), (44, .bool true)] (by first | simp [hg28] | rfl) ?_
      refine OI_static 17 [(44, .bool true), (45, .pointer (some ⟨b1, 4, none⟩))] (by kernel_rfl) ?_
      refine OI_cell 3 (.tmp 45) 4 (nt c.d) (some 46) (by kernel_rfl) (by kernel_rfl) hb1 (m := 1) (by kernel_rfl) rfl ?_
      refine OI_call { callee := (Callee.value (Operand.func 168)), args := #[(Operand.tmp 46), (Operand.const (Value.int IntKind.i64 1)), (Operand.const (Value.int IntKind.i64 1000000000))], argTypes := #[3, 3, 3] } 168 #[nt c.d, nt 1, nt 1000000000] (some 47) (by kernel_rfl) (by kernel_rfl) (by kernel_rfl) (r4In_spec c.d 1 1000000000 _) ?_
      rintro _ w1 ⟨rfl, rfl⟩
      refine ⟨_, rfl, ?_⟩
      refine OI_static 21 [(2, .bool (decide ((1 : Int) ≤ c.d ∧ c.d ≤ 1000000000)))] (by kernel_rfl) ?_
      refine OI_end rfl ?_
      refine X_then ?_
      refine V_ret ?_
      refine X_ret_block ?_
      refine X_ret_then ?_
      exact X_return (.bool (decide ((1 : Int) ≤ c.d ∧ c.d ≤ 1000000000))) rfl ⟨by congr 2; first | (apply Eq.symm; simp only [decide_eq_true_eq, decide_eq_false_iff_not]; unfold okCrv fallsC; simp_all <;> omega) | (rw [decide_eq_decide]; unfold okCrv fallsC; simp_all <;> omega), hK0⟩
     ·
      refine OI_eq [(1, pt b1), (44, .bool false)] (by first | simp [hg28] | rfl) ?_
      refine OI_static 21 [(2, .bool false)] (by kernel_rfl) ?_
      refine OI_end rfl ?_
      refine X_then ?_
      refine V_ret ?_
      refine X_ret_block ?_
      refine X_ret_then ?_
      exact X_return (.bool false) rfl ⟨by congr 2; first | (apply Eq.symm; simp only [decide_eq_true_eq, decide_eq_false_iff_not]; unfold okCrv fallsC; simp_all <;> omega) | (rw [decide_eq_decide]; unfold okCrv fallsC; simp_all <;> omega), hK0⟩
    ·
     refine OI_eq [(1, pt b1), (39, .bool false)] (by first | simp [hg24] | rfl) ?_
     refine OI_static 21 [(2, .bool false)] (by kernel_rfl) ?_
     refine OI_end rfl ?_
     refine X_then ?_
     refine V_ret ?_
     refine X_ret_block ?_
     refine X_ret_then ?_
     exact X_return (.bool false) rfl ⟨by congr 2; first | (apply Eq.symm; simp only [decide_eq_true_eq, decide_eq_false_iff_not]; unfold okCrv fallsC; simp_all <;> omega) | (rw [decide_eq_decide]; unfold okCrv fallsC; simp_all <;> omega), hK0⟩
   ·
    refine OI_eq [(1, pt b1), (32, .bool false)] (by first | simp [hg20] | rfl) ?_
    refine OI_static 21 [(2, .bool false)] (by kernel_rfl) ?_
    refine OI_end rfl ?_
    refine X_then ?_
    refine V_ret ?_
    refine X_ret_block ?_
    refine X_ret_then ?_
    exact X_return (.bool false) rfl ⟨by congr 2; first | (apply Eq.symm; simp only [decide_eq_true_eq, decide_eq_false_iff_not]; unfold okCrv fallsC; simp_all <;> omega) | (rw [decide_eq_decide]; unfold okCrv fallsC; simp_all <;> omega), hK0⟩
  ·
   refine V_seq ?_
   refine V_region ?_
   refine OI_static 2 [(1, pt b1), (49, .bool (decide (c.k = 3)))] (by kernel_rfl) ?_
   refine OI_end rfl ?_
   refine X_then ?_
   refine V_if (c.k = 3) (by kernel_rfl) (fun hc32 => ?_) (fun hc32 => ?_)
   ·
    refine V_seq ?_
    refine V_region ?_
    refine OI_static 1 [(1, pt b1), (51, .pointer (some ⟨b1, 1, none⟩))] (by kernel_rfl) ?_
    refine OI_cell 3 (.tmp 51) 1 (nt c.a) (some 52) (by kernel_rfl) (by kernel_rfl) hb1 (m := 1) (by kernel_rfl) rfl ?_
    refine OI_call { callee := (Callee.value (Operand.func 168)), args := #[(Operand.tmp 52), (Operand.const (Value.int IntKind.i64 0)), (Operand.const (Value.int IntKind.i64 1000000000))], argTypes := #[3, 3, 3] } 168 #[nt c.a, nt 0, nt 1000000000] (some 53) (by kernel_rfl) (by kernel_rfl) (by kernel_rfl) (r4In_spec c.a 0 1000000000 _) ?_
    rintro _ w1 ⟨rfl, rfl⟩
    refine ⟨_, rfl, ?_⟩
    refine OI_static 4 [(1, pt b1), (54, .bool (decide ((0 : Int) ≤ c.a ∧ c.a ≤ 1000000000)))] (by kernel_rfl) ?_
    by_cases hg36 : (0 : Int) ≤ c.a ∧ c.a ≤ 1000000000
    ·
     refine OI_eq [(1, pt b1), (54, .bool true)] (by first | simp [hg36] | rfl) ?_
     refine OI_static 5 [(1, pt b1), (54, .bool true), (55, .pointer (some ⟨b1, 2, none⟩))] (by kernel_rfl) ?_
     refine OI_cell 3 (.tmp 55) 2 (nt c.b) (some 56) (by kernel_rfl) (by kernel_rfl) hb1 (m := 1) (by kernel_rfl) rfl ?_
     refine OI_call { callee := (Callee.value (Operand.func 168)), args := #[(Operand.tmp 56), (Operand.const (Value.int IntKind.i64 1)), (Operand.const (Value.int IntKind.i64 1000000000))], argTypes := #[3, 3, 3] } 168 #[nt c.b, nt 1, nt 1000000000] (some 57) (by kernel_rfl) (by kernel_rfl) (by kernel_rfl) (r4In_spec c.b 1 1000000000 _) ?_
     rintro _ w1 ⟨rfl, rfl⟩
     refine ⟨_, rfl, ?_⟩
     refine OI_static 9 [(1, pt b1), (59, .bool (decide ((1 : Int) ≤ c.b ∧ c.b ≤ 1000000000)))] (by kernel_rfl) ?_
     by_cases hg40 : (1 : Int) ≤ c.b ∧ c.b ≤ 1000000000
     ·
      refine OI_eq [(1, pt b1), (59, .bool true)] (by first | simp [hg40] | rfl) ?_
      refine OI_static 10 [(1, pt b1), (59, .bool true), (60, .pointer (some ⟨b1, 3, none⟩))] (by kernel_rfl) ?_
      refine OI_cell 3 (.tmp 60) 3 (nt c.c) (some 61) (by kernel_rfl) (by kernel_rfl) hb1 (m := 1) (by kernel_rfl) rfl ?_
      refine OI_call { callee := (Callee.value (Operand.func 168)), args := #[(Operand.tmp 61), (Operand.const (Value.int IntKind.i64 0)), (Operand.const (Value.int IntKind.i64 1000000000))], argTypes := #[3, 3, 3] } 168 #[nt c.c, nt 0, nt 1000000000] (some 62) (by kernel_rfl) (by kernel_rfl) (by kernel_rfl) (r4In_spec c.c 0 1000000000 _) ?_
      rintro _ w1 ⟨rfl, rfl⟩
      refine ⟨_, rfl, ?_⟩
      refine OI_static 14 [(1, pt b1), (64, .bool (decide ((0 : Int) ≤ c.c ∧ c.c ≤ 1000000000)))] (by kernel_rfl) ?_
      by_cases hg44 : (0 : Int) ≤ c.c ∧ c.c ≤ 1000000000
      ·
       refine OI_eq [(1, pt b1), (64, .bool true)] (by first | simp [hg44] | rfl) ?_
       refine OI_static 15 [(64, .bool true), (65, .pointer (some ⟨b1, 4, none⟩))] (by kernel_rfl) ?_
       refine OI_cell 3 (.tmp 65) 4 (nt c.d) (some 66) (by kernel_rfl) (by kernel_rfl) hb1 (m := 1) (by kernel_rfl) rfl ?_
       refine OI_static 19 [(2, .bool (decide (c.d = 0)))] (by kernel_rfl) ?_
       refine OI_end rfl ?_
       refine X_then ?_
       refine V_ret ?_
       refine X_ret_block ?_
       refine X_ret_then ?_
       exact X_return (.bool (decide (c.d = 0))) rfl ⟨by congr 2; first | (apply Eq.symm; simp only [decide_eq_true_eq, decide_eq_false_iff_not]; unfold okCrv fallsC; simp_all <;> omega) | (rw [decide_eq_decide]; unfold okCrv fallsC; simp_all <;> omega), hK0⟩
      ·
       refine OI_eq [(1, pt b1), (64, .bool false)] (by first | simp [hg44] | rfl) ?_
       refine OI_static 19 [(2, .bool false)] (by kernel_rfl) ?_
       refine OI_end rfl ?_
       refine X_then ?_
       refine V_ret ?_
       refine X_ret_block ?_
       refine X_ret_then ?_
       exact X_return (.bool false) rfl ⟨by congr 2; first | (apply Eq.symm; simp only [decide_eq_true_eq, decide_eq_false_iff_not]; unfold okCrv fallsC; simp_all <;> omega) | (rw [decide_eq_decide]; unfold okCrv fallsC; simp_all <;> omega), hK0⟩
     ·
      refine OI_eq [(1, pt b1), (59, .bool false)] (by first | simp [hg40] | rfl) ?_
      refine OI_static 19 [(2, .bool false)] (by kernel_rfl) ?_
      refine OI_end rfl ?_
      refine X_then ?_
      refine V_ret ?_
      refine X_ret_block ?_
      refine X_ret_then ?_
      exact X_return (.bool false) rfl ⟨by congr 2; first | (apply Eq.symm; simp only [decide_eq_true_eq, decide_eq_false_iff_not]; unfold okCrv fallsC; simp_all <;> omega) | (rw [decide_eq_decide]; unfold okCrv fallsC; simp_all <;> omega), hK0⟩
    ·
     refine OI_eq [(1, pt b1), (54, .bool false)] (by first | simp [hg36] | rfl) ?_
     refine OI_static 19 [(2, .bool false)] (by kernel_rfl) ?_
     refine OI_end rfl ?_
     refine X_then ?_
     refine V_ret ?_
     refine X_ret_block ?_
     refine X_ret_then ?_
     exact X_return (.bool false) rfl ⟨by congr 2; first | (apply Eq.symm; simp only [decide_eq_true_eq, decide_eq_false_iff_not]; unfold okCrv fallsC; simp_all <;> omega) | (rw [decide_eq_decide]; unfold okCrv fallsC; simp_all <;> omega), hK0⟩
   ·
    refine V_skip ?_
    refine X_block ?_
    refine X_then ?_
    refine V_seq ?_
    refine V_region ?_
    refine OI_static 1 [(2, .bool false)] (by kernel_rfl) ?_
    refine OI_end rfl ?_
    refine X_then ?_
    refine V_ret ?_
    exact X_return (.bool false) rfl ⟨by congr 2; first | (apply Eq.symm; simp only [decide_eq_true_eq, decide_eq_false_iff_not]; unfold okCrv fallsC; simp_all <;> omega) | (rw [decide_eq_decide]; unfold okCrv fallsC; simp_all <;> omega), hK0⟩

set_option maxRecDepth 10000 in
theorem r10Is_spec (x : Trk) (w : World) : Calls Tryz.prog 78 #[.agg x.cells.toArray] w fun e w' => e = .returned (.bool (decide (okTrk x))) ∧ Keep none_ w w' := by
 have hK0 : Keep none_ w w := Keep.refl _ _
 have hzhK0 := Keep.size hK0
 refine enterV Tryz.func78 rfl [.agg (Trk.cells x).toArray] 51 rfl rfl rfl ?_
 refine V_pick [(0, .agg (Trk.cells x).toArray)] rfl ?_
 refine V_seq ?_
 refine V_region ?_
 refine OI_box 27 (.tmp 0) (.agg (Trk.cells x).toArray) (Trk.cells x) (some 1) (by kernel_rfl) (by kernel_rfl) rfl ?_
 intro b1 w1 e1 hb1 k1 z1
 have hsz2 := Keep.size k1
 replace hK0 := Keep.tr hK0 (Keep.ofNone k1)
 have hb1lt := hb1.lt
 refine OI_static 2 [(1, pt b1)] (by kernel_rfl) ?_
 refine OI_end rfl ?_
 refine X_then ?_
 refine V_seq ?_
 refine V_region ?_
 refine OI_static 1 [(1, pt b1), (3, pt b1)] (by kernel_rfl) ?_
 refine OI_cell 3 (.tmp 3) 0 (nt x.most) (some 4) (by kernel_rfl) (by kernel_rfl) hb1 (m := 1) (by kernel_rfl) rfl ?_
 refine OI_call { callee := (Callee.value (Operand.func 118)), args := #[(Operand.tmp 4), (Operand.const (Value.int IntKind.i64 1)), (Operand.const (Value.int IntKind.i64 12))], argTypes := #[3, 3, 3] } 118 #[nt x.most, nt 1, nt 12] (some 5) (by kernel_rfl) (by kernel_rfl) (by kernel_rfl) (r10In_spec x.most 1 12 _) ?_
 rintro _ w1 ⟨rfl, rfl⟩
 refine ⟨_, rfl, ?_⟩
 refine OI_static 4 [(1, pt b1), (6, .bool (decide ((1 : Int) ≤ x.most ∧ x.most ≤ 12)))] (by kernel_rfl) ?_
 by_cases hg6 : (1 : Int) ≤ x.most ∧ x.most ≤ 12
 ·
  refine OI_eq [(1, pt b1), (6, .bool true)] (by first | simp [hg6] | rfl) ?_
  refine OI_static 5 [(1, pt b1), (6, .bool true), (7, .pointer (some ⟨b1, 1, none⟩))] (by kernel_rfl) ?_
  refine OI_cell 3 (.tmp 7) 1 (nt x.deposit) (some 8) (by kernel_rfl) (by kernel_rfl) hb1 (m := 1) (by kernel_rfl) rfl ?_
  refine OI_call { callee := (Callee.value (Operand.func 118)), args := #[(Operand.tmp 8), (Operand.const (Value.int IntKind.i64 0)), (Operand.const (Value.int IntKind.i64 1073741824))], argTypes := #[3, 3, 3] } 118 #[nt x.deposit, nt 0, nt 1073741824] (some 9) (by kernel_rfl) (by kernel_rfl) (by kernel_rfl) (r10In_spec x.deposit 0 1073741824 _) ?_
  rintro _ w1 ⟨rfl, rfl⟩
  refine ⟨_, rfl, ?_⟩
  refine OI_static 9 [(1, pt b1), (11, .bool (decide ((0 : Int) ≤ x.deposit ∧ x.deposit ≤ 1073741824)))] (by kernel_rfl) ?_
  by_cases hg10 : (0 : Int) ≤ x.deposit ∧ x.deposit ≤ 1073741824
  ·
   refine OI_eq [(1, pt b1), (11, .bool true)] (by first | simp [hg10] | rfl) ?_
   refine OI_static 10 [(1, pt b1), (11, .bool true), (12, .pointer (some ⟨b1, 16, none⟩))] (by kernel_rfl) ?_
   refine OI_cell 3 (.tmp 12) 16 (nt x.cap) (some 13) (by kernel_rfl) (by kernel_rfl) hb1 (m := 1) (by kernel_rfl) rfl ?_
   refine OI_call { callee := (Callee.value (Operand.func 118)), args := #[(Operand.tmp 13), (Operand.const (Value.int IntKind.i64 0)), (Operand.const (Value.int IntKind.i64 1073741824))], argTypes := #[3, 3, 3] } 118 #[nt x.cap, nt 0, nt 1073741824] (some 14) (by kernel_rfl) (by kernel_rfl) (by kernel_rfl) (r10In_spec x.cap 0 1073741824 _) ?_
   rintro _ w1 ⟨rfl, rfl⟩
   refine ⟨_, rfl, ?_⟩
   refine OI_static 14 [(1, pt b1), (16, .bool (decide ((0 : Int) ≤ x.cap ∧ x.cap ≤ 1073741824)))] (by kernel_rfl) ?_
   by_cases hg14 : (0 : Int) ≤ x.cap ∧ x.cap ≤ 1073741824
   ·
    refine OI_eq [(1, pt b1), (16, .bool true)] (by first | simp [hg14] | rfl) ?_
    refine OI_static 15 [(1, pt b1), (16, .bool true), (17, .pointer (some ⟨b1, 2, none⟩))] (by kernel_rfl) ?_
    refine OI_cell 3 (.tmp 17) 2 (nt x.prepare) (some 18) (by kernel_rfl) (by kernel_rfl) hb1 (m := 1) (by kernel_rfl) rfl ?_
    refine OI_call { callee := (Callee.value (Operand.func 118)), args := #[(Operand.tmp 18), (Operand.const (Value.int IntKind.i64 0)), (Operand.const (Value.int IntKind.i64 1000))], argTypes := #[3, 3, 3] } 118 #[nt x.prepare, nt 0, nt 1000] (some 19) (by kernel_rfl) (by kernel_rfl) (by kernel_rfl) (r10In_spec x.prepare 0 1000 _) ?_
    rintro _ w1 ⟨rfl, rfl⟩
    refine ⟨_, rfl, ?_⟩
    refine OI_static 19 [(1, pt b1), (21, .bool (decide ((0 : Int) ≤ x.prepare ∧ x.prepare ≤ 1000)))] (by kernel_rfl) ?_
    by_cases hg18 : (0 : Int) ≤ x.prepare ∧ x.prepare ≤ 1000
    ·
     refine OI_eq [(1, pt b1), (21, .bool true)] (by first | simp [hg18] | rfl) ?_
     refine OI_static 20 [(1, pt b1), (21, .bool true), (22, .pointer (some ⟨b1, 4, none⟩))] (by kernel_rfl) ?_
     refine OI_cell 3 (.tmp 22) 4 (nt x.confirm) (some 23) (by kernel_rfl) (by kernel_rfl) hb1 (m := 1) (by kernel_rfl) rfl ?_
     refine OI_call { callee := (Callee.value (Operand.func 118)), args := #[(Operand.tmp 23), (Operand.const (Value.int IntKind.i64 0)), (Operand.const (Value.int IntKind.i64 1000))], argTypes := #[3, 3, 3] } 118 #[nt x.confirm, nt 0, nt 1000] (some 24) (by kernel_rfl) (by kernel_rfl) (by kernel_rfl) (r10In_spec x.confirm 0 1000 _) ?_
     rintro _ w1 ⟨rfl, rfl⟩
     refine ⟨_, rfl, ?_⟩
     refine OI_static 24 [(1, pt b1), (26, .bool (decide ((0 : Int) ≤ x.confirm ∧ x.confirm ≤ 1000)))] (by kernel_rfl) ?_
     by_cases hg22 : (0 : Int) ≤ x.confirm ∧ x.confirm ≤ 1000
     ·
      refine OI_eq [(1, pt b1), (26, .bool true)] (by first | simp [hg22] | rfl) ?_
      refine OI_static 25 [(1, pt b1), (26, .bool true), (27, .pointer (some ⟨b1, 5, none⟩))] (by kernel_rfl) ?_
      refine OI_cell 3 (.tmp 27) 5 (nt x.enact) (some 28) (by kernel_rfl) (by kernel_rfl) hb1 (m := 1) (by kernel_rfl) rfl ?_
      refine OI_call { callee := (Callee.value (Operand.func 118)), args := #[(Operand.tmp 28), (Operand.const (Value.int IntKind.i64 0)), (Operand.const (Value.int IntKind.i64 1000))], argTypes := #[3, 3, 3] } 118 #[nt x.enact, nt 0, nt 1000] (some 29) (by kernel_rfl) (by kernel_rfl) (by kernel_rfl) (r10In_spec x.enact 0 1000 _) ?_
      rintro _ w1 ⟨rfl, rfl⟩
      refine ⟨_, rfl, ?_⟩
      refine OI_static 29 [(1, pt b1), (31, .bool (decide ((0 : Int) ≤ x.enact ∧ x.enact ≤ 1000)))] (by kernel_rfl) ?_
      by_cases hg26 : (0 : Int) ≤ x.enact ∧ x.enact ≤ 1000
      ·
       refine OI_eq [(1, pt b1), (31, .bool true)] (by first | simp [hg26] | rfl) ?_
       refine OI_static 30 [(1, pt b1), (31, .bool true), (32, .pointer (some ⟨b1, 3, none⟩))] (by kernel_rfl) ?_
       refine OI_cell 3 (.tmp 32) 3 (nt x.decision) (some 33) (by kernel_rfl) (by kernel_rfl) hb1 (m := 1) (by kernel_rfl) rfl ?_
       refine OI_call { callee := (Callee.value (Operand.func 118)), args := #[(Operand.tmp 33), (Operand.const (Value.int IntKind.i64 1)), (Operand.const (Value.int IntKind.i64 1000))], argTypes := #[3, 3, 3] } 118 #[nt x.decision, nt 1, nt 1000] (some 34) (by kernel_rfl) (by kernel_rfl) (by kernel_rfl) (r10In_spec x.decision 1 1000 _) ?_
       rintro _ w1 ⟨rfl, rfl⟩
       refine ⟨_, rfl, ?_⟩
       refine OI_static 34 [(1, pt b1), (36, .bool (decide ((1 : Int) ≤ x.decision ∧ x.decision ≤ 1000)))] (by kernel_rfl) ?_
       by_cases hg30 : (1 : Int) ≤ x.decision ∧ x.decision ≤ 1000
       ·
        refine OI_eq [(1, pt b1), (36, .bool true)] (by first | simp [hg30] | rfl) ?_
        refine OI_static 35 [(1, pt b1), (36, .bool true), (37, .pointer (some ⟨b1, 6, none⟩))] (by kernel_rfl) ?_
        refine OI_agg 25 (.tmp 37) 6 (Crv.cells x.app) (some 38) (by kernel_rfl) (by kernel_rfl) hb1 (m := 5) (by kernel_rfl) rfl rfl ?_
        refine OI_call { callee := (Callee.value (Operand.func 119)), args := #[(Operand.tmp 38)], argTypes := #[25] } 119 #[.agg (Crv.cells x.app).toArray] (some 39) (by kernel_rfl) (by kernel_rfl) (by kernel_rfl) (r4Is_spec x.app _) ?_
        rintro _ w31 ⟨rfl, hk32⟩
        refine ⟨_, rfl, ?_⟩
        have hsz33 := Keep.size hk32
        replace hb1 := hb1.keep hk32 (fun f => f)
        replace hK0 := Keep.tr hK0 (Keep.ofNone hk32)
        refine OI_static 39 [(1, pt b1), (41, .bool (decide (okCrv x.app)))] (by kernel_rfl) ?_
        by_cases hg34 : okCrv x.app
        ·
         refine OI_eq [(1, pt b1), (41, .bool true)] (by first | simp [hg34] | rfl) ?_
         refine OI_static 40 [(1, pt b1), (41, .bool true), (42, .pointer (some ⟨b1, 11, none⟩))] (by kernel_rfl) ?_
         refine OI_agg 25 (.tmp 42) 11 (Crv.cells x.sup) (some 43) (by kernel_rfl) (by kernel_rfl) hb1 (m := 5) (by kernel_rfl) rfl rfl ?_
         refine OI_call { callee := (Callee.value (Operand.func 119)), args := #[(Operand.tmp 43)], argTypes := #[25] } 119 #[.agg (Crv.cells x.sup).toArray] (some 44) (by kernel_rfl) (by kernel_rfl) (by kernel_rfl) (r4Is_spec x.sup _) ?_
         rintro _ w35 ⟨rfl, hk36⟩
         refine ⟨_, rfl, ?_⟩
         have hsz37 := Keep.size hk36
         replace hb1 := hb1.keep hk36 (fun f => f)
         replace hK0 := Keep.tr hK0 (Keep.ofNone hk36)
         refine OI_static 44 [(1, pt b1), (46, .bool (decide (okCrv x.sup)))] (by kernel_rfl) ?_
         by_cases hg38 : okCrv x.sup
         ·
          refine OI_eq [(1, pt b1), (46, .bool true)] (by first | simp [hg38] | rfl) ?_
          refine OI_static 45 [(46, .bool true), (47, .pointer (some ⟨b1, 17, none⟩))] (by kernel_rfl) ?_
          refine OI_cell 3 (.tmp 47) 17 (nt x.rank) (some 48) (by kernel_rfl) (by kernel_rfl) hb1 (m := 1) (by kernel_rfl) rfl ?_
          refine OI_call { callee := (Callee.value (Operand.func 118)), args := #[(Operand.tmp 48), (Operand.const (Value.int IntKind.i64 0)), (Operand.const (Value.int IntKind.i64 2))], argTypes := #[3, 3, 3] } 118 #[nt x.rank, nt 0, nt 2] (some 49) (by kernel_rfl) (by kernel_rfl) (by kernel_rfl) (r10In_spec x.rank 0 2 _) ?_
          rintro _ w35 ⟨rfl, rfl⟩
          refine ⟨_, rfl, ?_⟩
          refine OI_static 49 [(2, .bool (decide ((0 : Int) ≤ x.rank ∧ x.rank ≤ 2)))] (by kernel_rfl) ?_
          refine OI_end rfl ?_
          refine X_then ?_
          refine V_ret ?_
          exact X_return (.bool (decide ((0 : Int) ≤ x.rank ∧ x.rank ≤ 2))) rfl ⟨by congr 2; first | (apply Eq.symm; simp only [decide_eq_true_eq, decide_eq_false_iff_not]; unfold okTrk; simp_all <;> omega) | (rw [decide_eq_decide]; unfold okTrk; simp_all <;> omega), hK0⟩
         ·
          refine OI_eq [(1, pt b1), (46, .bool false)] (by first | simp [hg38] | rfl) ?_
          refine OI_static 49 [(2, .bool false)] (by kernel_rfl) ?_
          refine OI_end rfl ?_
          refine X_then ?_
          refine V_ret ?_
          exact X_return (.bool false) rfl ⟨by congr 2; first | (apply Eq.symm; simp only [decide_eq_true_eq, decide_eq_false_iff_not]; unfold okTrk; simp_all <;> omega) | (rw [decide_eq_decide]; unfold okTrk; simp_all <;> omega), hK0⟩
        ·
         refine OI_eq [(1, pt b1), (41, .bool false)] (by first | simp [hg34] | rfl) ?_
         refine OI_static 49 [(2, .bool false)] (by kernel_rfl) ?_
         refine OI_end rfl ?_
         refine X_then ?_
         refine V_ret ?_
         exact X_return (.bool false) rfl ⟨by congr 2; first | (apply Eq.symm; simp only [decide_eq_true_eq, decide_eq_false_iff_not]; unfold okTrk; simp_all <;> omega) | (rw [decide_eq_decide]; unfold okTrk; simp_all <;> omega), hK0⟩
       ·
        refine OI_eq [(1, pt b1), (36, .bool false)] (by first | simp [hg30] | rfl) ?_
        refine OI_static 49 [(2, .bool false)] (by kernel_rfl) ?_
        refine OI_end rfl ?_
        refine X_then ?_
        refine V_ret ?_
        exact X_return (.bool false) rfl ⟨by congr 2; first | (apply Eq.symm; simp only [decide_eq_true_eq, decide_eq_false_iff_not]; unfold okTrk; simp_all <;> omega) | (rw [decide_eq_decide]; unfold okTrk; simp_all <;> omega), hK0⟩
      ·
       refine OI_eq [(1, pt b1), (31, .bool false)] (by first | simp [hg26] | rfl) ?_
       refine OI_static 49 [(2, .bool false)] (by kernel_rfl) ?_
       refine OI_end rfl ?_
       refine X_then ?_
       refine V_ret ?_
       exact X_return (.bool false) rfl ⟨by congr 2; first | (apply Eq.symm; simp only [decide_eq_true_eq, decide_eq_false_iff_not]; unfold okTrk; simp_all <;> omega) | (rw [decide_eq_decide]; unfold okTrk; simp_all <;> omega), hK0⟩
     ·
      refine OI_eq [(1, pt b1), (26, .bool false)] (by first | simp [hg22] | rfl) ?_
      refine OI_static 49 [(2, .bool false)] (by kernel_rfl) ?_
      refine OI_end rfl ?_
      refine X_then ?_
      refine V_ret ?_
      exact X_return (.bool false) rfl ⟨by congr 2; first | (apply Eq.symm; simp only [decide_eq_true_eq, decide_eq_false_iff_not]; unfold okTrk; simp_all <;> omega) | (rw [decide_eq_decide]; unfold okTrk; simp_all <;> omega), hK0⟩
    ·
     refine OI_eq [(1, pt b1), (21, .bool false)] (by first | simp [hg18] | rfl) ?_
     refine OI_static 49 [(2, .bool false)] (by kernel_rfl) ?_
     refine OI_end rfl ?_
     refine X_then ?_
     refine V_ret ?_
     exact X_return (.bool false) rfl ⟨by congr 2; first | (apply Eq.symm; simp only [decide_eq_true_eq, decide_eq_false_iff_not]; unfold okTrk; simp_all <;> omega) | (rw [decide_eq_decide]; unfold okTrk; simp_all <;> omega), hK0⟩
   ·
    refine OI_eq [(1, pt b1), (16, .bool false)] (by first | simp [hg14] | rfl) ?_
    refine OI_static 49 [(2, .bool false)] (by kernel_rfl) ?_
    refine OI_end rfl ?_
    refine X_then ?_
    refine V_ret ?_
    exact X_return (.bool false) rfl ⟨by congr 2; first | (apply Eq.symm; simp only [decide_eq_true_eq, decide_eq_false_iff_not]; unfold okTrk; simp_all <;> omega) | (rw [decide_eq_decide]; unfold okTrk; simp_all <;> omega), hK0⟩
  ·
   refine OI_eq [(1, pt b1), (11, .bool false)] (by first | simp [hg10] | rfl) ?_
   refine OI_static 49 [(2, .bool false)] (by kernel_rfl) ?_
   refine OI_end rfl ?_
   refine X_then ?_
   refine V_ret ?_
   exact X_return (.bool false) rfl ⟨by congr 2; first | (apply Eq.symm; simp only [decide_eq_true_eq, decide_eq_false_iff_not]; unfold okTrk; simp_all <;> omega) | (rw [decide_eq_decide]; unfold okTrk; simp_all <;> omega), hK0⟩
 ·
  refine OI_eq [(1, pt b1), (6, .bool false)] (by first | simp [hg6] | rfl) ?_
  refine OI_static 49 [(2, .bool false)] (by kernel_rfl) ?_
  refine OI_end rfl ?_
  refine X_then ?_
  refine V_ret ?_
  exact X_return (.bool false) rfl ⟨by congr 2; first | (apply Eq.symm; simp only [decide_eq_true_eq, decide_eq_false_iff_not]; unfold okTrk; simp_all <;> omega) | (rw [decide_eq_decide]; unfold okTrk; simp_all <;> omega), hK0⟩

def okTs (ts : List Trk) : Prop := 1 ≤ ts.length ∧ ts.length ≤ 4 ∧ ∀ t ∈ ts, okTrk t
instance (ts : List Trk) : Decidable (okTs ts) := by unfold okTs; infer_instance

set_option maxRecDepth 10000 in
theorem rbad_spec (x : Trk) (w : World) : Calls Tryz.prog 79 #[.agg x.cells.toArray] w fun e w' => e = .returned (.bool (!decide (okTrk x))) ∧ Keep none_ w w' := by
 have hK0 : Keep none_ w w := Keep.refl _ _
 have hzhK0 := Keep.size hK0
 refine enterV Tryz.func79 rfl [.agg (Trk.cells x).toArray] 6 rfl rfl rfl ?_
 refine V_pick [(0, .agg (Trk.cells x).toArray)] rfl ?_
 refine V_seq ?_
 refine V_region ?_
 refine OI_box 27 (.tmp 0) (.agg (Trk.cells x).toArray) (Trk.cells x) (some 1) (by kernel_rfl) (by kernel_rfl) rfl ?_
 intro b1 w1 e1 hb1 k1 z1
 have hsz2 := Keep.size k1
 replace hK0 := Keep.tr hK0 (Keep.ofNone k1)
 have hb1lt := hb1.lt
 refine OI_static 2 [(1, pt b1)] (by kernel_rfl) ?_
 refine OI_end rfl ?_
 refine X_then ?_
 refine V_seq ?_
 refine V_region ?_
 refine OI_agg 27 (.tmp 1) 0 (Trk.cells x) (some 3) (by kernel_rfl) (by kernel_rfl) hb1 (m := 18) (by kernel_rfl) (take_all (Trk.len _)) (Trk.len _) ?_
 refine OI_call { callee := (Callee.value (Operand.func 80)), args := #[(Operand.tmp 3)], argTypes := #[27] } 80 #[.agg (Trk.cells x).toArray] (some 4) (by kernel_rfl) (by kernel_rfl) (by kernel_rfl) (trkIs_spec x _) ?_
 rintro _ w3 ⟨rfl, hk4⟩
 refine ⟨_, rfl, ?_⟩
 have hsz5 := Keep.size hk4
 replace hb1 := hb1.keep hk4 (fun f => f)
 replace hK0 := Keep.tr hK0 (Keep.ofNone hk4)
 refine OI_static 4 [(2, .bool (!(decide (okTrk x))))] (by kernel_rfl) ?_
 refine OI_end rfl ?_
 refine X_then ?_
 refine V_ret ?_
 exact X_return (.bool (!(decide (okTrk x)))) rfl ⟨rfl, hK0⟩

set_option maxRecDepth 10000 in
theorem ixf_spec (A : Option Addr) (cap : Nat) (ts : List Trk) (w : World) (hA : SlT w 18 Trk.cells A cap ts) (hok : ∀ t ∈ ts, okTrk t) (hn4 : ts.length ≤ 4) : Calls Tryz.prog 122 #[.slice A ts.length cap, .func (.func 79) #[] #[]] w fun e w' => e = .returned (.int .i64 (-1)) ∧ Keep none_ w w' := by
 have hAlt := SlT.lt hA
 have hK0 : Keep none_ w w := Keep.refl _ _
 have hzhK0 := Keep.size hK0
 refine enterV Tryz.func122 rfl [.slice A ts.length cap, .func (.func 79) #[] #[]] 19 rfl rfl rfl ?_
 refine V_pick [(0, .slice A ts.length cap), (1, .func (.func 79) #[] #[])] rfl ?_
 refine V_seq ?_
 refine V_region ?_
 refine OI_static 1 [(0, .slice A ts.length cap), (1, .func (.func 79) #[] #[])] (by kernel_rfl) ?_
 refine OI_end rfl ?_
 refine X_then ?_
 refine V_seq ?_
 refine V_seq ?_
 refine V_region ?_
 refine OI_static 3 [(0, .slice A ts.length cap), (1, .func (.func 79) #[] #[]), (7, nt ((ts.length : Nat) : Int)), (8, nt 0)] (by kernel_rfl) ?_
 refine OI_end rfl ?_
 refine X_then ?_
 refine V_block ?_
 refine V_pick [(0, .slice A ts.length cap), (1, .func (.func 79) #[] #[]), (7, nt ((ts.length : Nat) : Int)), (8, nt 0)] rfl ?_
 refine V_loop (fun k wI e => ∃ i : Nat, (k + i = ts.length) ∧ Keep none_ w wI ∧ e = [(0, .slice A ts.length cap), (1, .func (.func 79) #[] #[]), (7, nt ((ts.length : Nat) : Int)), (8, nt ((i : Nat) : Int))]) ts.length ⟨0, rfl, Keep.refl _ _, rfl⟩ ?_
 rintro k2 w1 _ ⟨i, hki, hk3, rfl⟩
 have hsz4 := Keep.size hk3
 replace hA := SlT.keep0 hA hk3
 replace hK0 := Keep.tr hK0 (Keep.ofNone hk3)
 have hzhk3 := Keep.size hk3
 refine V_seq ?_
 refine V_region ?_
 refine OI_static 1 [(0, .slice A ts.length cap), (1, .func (.func 79) #[] #[]), (7, nt ((ts.length : Nat) : Int)), (8, nt ((i : Nat) : Int)), (9, .bool (decide (((i : Nat) : Int) < ((ts.length : Nat) : Int))))] (by kernel_rfl) ?_
 refine OI_end rfl ?_
 refine X_then ?_
 refine V_seq ?_
 refine V_if (((i : Nat) : Int) < ((ts.length : Nat) : Int)) (by kernel_rfl) (fun hc5 => ?_) (fun hc5 => ?_)
 ·
  refine V_skip ?_
  refine X_then ?_
  refine V_seq ?_
  refine V_block ?_
  refine V_seq ?_
  refine V_region ?_
  refine OI_static 2 [(0, .slice A ts.length cap), (1, .func (.func 79) #[] #[]), (5, nt ((i : Nat) : Int)), (7, nt ((ts.length : Nat) : Int)), (8, nt ((i : Nat) : Int))] (by kernel_rfl) ?_
  refine OI_end rfl ?_
  refine X_then ?_
  refine V_seq ?_
  refine V_region ?_
  refine OI_static 3 [(0, .slice A ts.length cap), (1, .func (.func 79) #[] #[]), (5, nt ((i : Nat) : Int)), (7, nt ((ts.length : Nat) : Int)), (8, nt ((i : Nat) : Int)), (11, .func (.func 79) #[] #[]), (12, .slice A ts.length cap), (13, nt ((i : Nat) : Int))] (by kernel_rfl) ?_
  obtain ⟨b6, o6, L6, T6, rfl, hat6⟩ := SlT.open_ hA (by first | omega | (simp only [List.length_map]; omega) | (simp; done) | (simp; omega))
  have hb6lt := hat6.blk.lt
  have hob7 := hAlt b6 ⟨_, rfl, rfl⟩
  refine OI_pure (some 14) (.indexAddr 29 (.tmp 12) (.tmp 13)) (by kernel_rfl) (pure_idxN (b := b6) (o := o6) (len := ts.length) (cap := cap) (kd := .i64) (j := i) (E := 27) (sz := 18) (by_ := 144) (by kernel_rfl) (by kernel_rfl) (by kernel_rfl) (by omega)) ?_
  obtain ⟨x8, hx9⟩ : ∃ x, ts[i]? = some x := ⟨_, List.getElem?_eq_getElem (by first | omega | (simp only [List.length_map]; omega))⟩
  have hokx : okTrk x8 := hok x8 (List.mem_of_getElem? hx9)
  refine OI_agg 27 (.tmp 14) (o6 + i * 18) (Trk.cells x8) (some 15) (by kernel_rfl) (by kernel_rfl) hat6.blk (m := 18) (by kernel_rfl) (At.elem' hat6 (es_at hx9)) (At.len hat6 (es_at hx9)) ?_
  refine OI_call { callee := (Callee.value (Operand.tmp 11)), args := #[(Operand.tmp 15)], argTypes := #[27] } 79 #[.agg (Trk.cells x8).toArray] (some 16) (by kernel_rfl) (by kernel_rfl) (by kernel_rfl) (rbad_spec x8 _) ?_
  rintro _ w10 ⟨rfl, hk11⟩
  refine ⟨_, rfl, ?_⟩
  have hsz12 := Keep.size hk11
  replace hat6 := hat6.keep hk11 (fun f => f)
  replace hK0 := Keep.tr hK0 (Keep.ofNone hk11)
  replace hk3 := Keep.tr hk3 (Keep.ofNone hk11)
  refine OI_end rfl ?_
  refine X_then ?_
  refine V_pick [(0, .slice (some ⟨b6, o6, none⟩) ts.length cap), (1, .func (.func 79) #[] #[]), (5, nt ((i : Nat) : Int)), (7, nt ((ts.length : Nat) : Int)), (8, nt ((i : Nat) : Int)), (16, .bool (!(decide (okTrk x8))))] rfl ?_
  refine V_eq [(0, .slice (some ⟨b6, o6, none⟩) ts.length cap), (1, .func (.func 79) #[] #[]), (5, nt ((i : Nat) : Int)), (7, nt ((ts.length : Nat) : Int)), (8, nt ((i : Nat) : Int)), (16, .bool false)] (by rw [decide_eq_true hokx]; rfl) ?_
  refine V_false rfl ?_
  refine V_skip ?_
  refine X_block ?_
  refine X_then ?_
  refine V_region ?_
  have hw14 : IntKind.i64.wrap (((i : Nat) : Int) + 1) = ((i + 1 : Nat) : Int) := (wrap64_id (by omega) (by omega)).trans (by omega)
  refine OI_static 1 [(0, .slice (some ⟨b6, o6, none⟩) ts.length cap), (1, .func (.func 79) #[] #[]), (7, nt ((ts.length : Nat) : Int)), (18, nt (IntKind.i64.wrap (((i : Nat) : Int) + 1)))] (by kernel_rfl) ?_
  refine OI_eq [(0, .slice (some ⟨b6, o6, none⟩) ts.length cap), (1, .func (.func 79) #[] #[]), (7, nt ((ts.length : Nat) : Int)), (18, nt ((i + 1 : Nat) : Int))] (by rw [hw14]) ?_
  refine OI_static 2 [(0, .slice (some ⟨b6, o6, none⟩) ts.length cap), (1, .func (.func 79) #[] #[]), (7, nt ((ts.length : Nat) : Int)), (8, nt ((i + 1 : Nat) : Int))] (by kernel_rfl) ?_
  refine OI_end rfl ?_
  exact V_again (k2 - 1) (by omega) [(0, .slice (some ⟨b6, o6, none⟩) ts.length cap), (1, .func (.func 79) #[] #[]), (7, nt ((ts.length : Nat) : Int)), (8, nt ((i + 1 : Nat) : Int))] rfl ⟨i + 1, by omega, hk3, rfl⟩
 ·
  refine V_exit ?_
  refine X_exit_then ?_
  refine X_exit_then ?_
  refine X_exit_here ?_
  refine X_then ?_
  refine V_seq ?_
  refine V_region ?_
  refine OI_static 1 [(4, nt (-1))] (by kernel_rfl) ?_
  refine OI_end rfl ?_
  refine X_then ?_
  refine V_ret ?_
  exact X_return (nt (-1)) rfl ⟨rfl, hK0⟩

set_option maxRecDepth 10000 in
theorem ctf_spec (A : Option Addr) (cap : Nat) (ts : List Trk) (w : World) (hA : SlT w 18 Trk.cells A cap ts) (hok : ∀ t ∈ ts, okTrk t) (hn4 : ts.length ≤ 4) : Calls Tryz.prog 81 #[.slice A ts.length cap, .func (.func 79) #[] #[]] w fun e w' => e = .returned (.bool false) ∧ Keep none_ w w' := by
 have hAlt := SlT.lt hA
 have hK0 : Keep none_ w w := Keep.refl _ _
 have hzhK0 := Keep.size hK0
 refine enterV Tryz.func81 rfl [.slice A ts.length cap, .func (.func 79) #[] #[]] 9 rfl rfl rfl ?_
 refine V_pick [(0, .slice A ts.length cap), (1, .func (.func 79) #[] #[])] rfl ?_
 refine V_seq ?_
 refine V_region ?_
 refine OI_static 1 [(0, .slice A ts.length cap), (1, .func (.func 79) #[] #[])] (by kernel_rfl) ?_
 refine OI_end rfl ?_
 refine X_then ?_
 refine V_seq ?_
 refine V_region ?_
 refine OI_static 2 [(5, .slice A ts.length cap), (6, .func (.func 79) #[] #[])] (by kernel_rfl) ?_
 refine OI_call { callee := (Callee.value (Operand.func 122)), args := #[(Operand.tmp 5), (Operand.tmp 6)], argTypes := #[29, 150] } 122 #[.slice A ts.length cap, .func (.func 79) #[] #[]] (some 7) (by kernel_rfl) (by kernel_rfl) (by kernel_rfl) (ixf_spec A cap ts _ hA hok hn4) ?_
 rintro _ w1 ⟨rfl, hk2⟩
 refine ⟨_, rfl, ?_⟩
 have hsz3 := Keep.size hk2
 replace hA := SlT.keep0 hA hk2
 replace hK0 := Keep.tr hK0 (Keep.ofNone hk2)
 refine OI_static 5 [(4, .bool false)] (by kernel_rfl) ?_
 refine OI_end rfl ?_
 refine X_then ?_
 refine V_ret ?_
 exact X_return (.bool false) rfl ⟨rfl, hK0⟩

set_option maxRecDepth 10000 in
theorem tclone_nil (w : World) : Calls Tryz.prog 82 #[.slice none 0 0] w fun e w' => e = .returned (.slice none 0 0) ∧ w' = w := by
 refine enterV Tryz.func82 rfl [.slice none 0 0] 8 rfl rfl rfl ?_
 refine V_pick [(0, .slice none 0 0)] rfl ?_
 refine V_seq ?_
 refine V_region ?_
 refine OI_static 1 [(0, .slice none 0 0)] (by kernel_rfl) ?_
 refine OI_end rfl ?_
 refine X_then ?_
 refine V_seq ?_
 refine V_seq ?_
 refine V_region ?_
 refine OI_static 2 [(0, .slice none 0 0), (4, .bool true)] (by kernel_rfl) ?_
 refine OI_end rfl ?_
 refine X_then ?_
 refine V_true rfl ?_
 refine V_seq ?_
 refine V_region ?_
 refine OI_static 1 [(2, .slice none 0 0)] (by kernel_rfl) ?_
 refine OI_end rfl ?_
 refine X_then ?_
 refine V_ret ?_
 refine X_ret_then ?_
 exact X_return _ rfl ⟨rfl, rfl⟩

set_option maxRecDepth 10000 in
theorem tclone_at (b o cap : Nat) (L : List Value) (T : TypeId) (xs : List Trk) (w : World) (h : At w b o L T 18 cap (xs.map Trk.cells)) (hn : xs.length ≤ 1000000) : Calls Tryz.prog 82 #[.slice (some ⟨b, o, none⟩) xs.length cap] w fun e w' => ∃ A' cap', e = .returned (.slice A' xs.length cap') ∧ SlT w' 18 Trk.cells A' cap' xs ∧ Keep none_ w w' ∧ (∀ k, inA A' k → w.heap.size ≤ k) := by
 have hblt := h.blk.lt
 have hK0 : Keep none_ w w := Keep.refl _ _
 have hzhK0 := Keep.size hK0
 refine enterV Tryz.func82 rfl [.slice (some ⟨b, o, none⟩) xs.length cap] 8 rfl rfl rfl ?_
 refine V_pick [(0, .slice (some ⟨b, o, none⟩) xs.length cap)] rfl ?_
 refine V_seq ?_
 refine V_region ?_
 refine OI_static 1 [(0, .slice (some ⟨b, o, none⟩) xs.length cap)] (by kernel_rfl) ?_
 refine OI_end rfl ?_
 refine X_then ?_
 refine V_seq ?_
 refine V_seq ?_
 refine V_region ?_
 refine OI_static 2 [(0, .slice (some ⟨b, o, none⟩) xs.length cap), (4, .bool false)] (by kernel_rfl) ?_
 refine OI_end rfl ?_
 refine X_then ?_
 refine V_false rfl ?_
 refine V_skip ?_
 refine X_then ?_
 refine V_seq ?_
 refine V_region ?_
 refine OI_slit (E := 27) (zv := .agg #[nt 0, nt 0, nt 0, nt 0, nt 0, nt 0, nt 0, nt 0, nt 0, nt 0, nt 0, nt 0, nt 0, nt 0, nt 0, nt 0, nt 0, nt 0]) (sz := 18) (by_ := 144) 29 0 #[] [] [] (some 5) (by kernel_rfl) (by kernel_rfl) (by kernel_rfl) (by omega) rfl (by omega) (by intro v hv; cases hv) (by kernel_rfl) rfl ?_
 intro b1 w1 e1 hb1 k1 z1
 have hsz2 := Keep.size k1
 replace h := h.keep k1 (fun f => f)
 replace hK0 := Keep.tr hK0 (Keep.ofNone k1)
 have hb1lt := hb1.lt
 refine OI_static 2 [(5, .slice (some ⟨b1, 0, none⟩) 0 0), (6, .slice (some ⟨b, o, none⟩) xs.length cap)] (by kernel_rfl) ?_
 refine OI_append (t := 29) (at2 := 29) (E := 27) (E2 := 27) (sz := 18) (by_ := 144) (zv := .agg #[nt 0, nt 0, nt 0, nt 0, nt 0, nt 0, nt 0, nt 0, nt 0, nt 0, nt 0, nt 0, nt 0, nt 0, nt 0, nt 0, nt 0, nt 0]) (m := 0) (k := xs.length) (.tmp 5) (.tmp 6) (.slice (some ⟨b1, 0, none⟩) 0 0) (.slice (some ⟨b, o, none⟩) xs.length cap) (some 7) (by kernel_rfl) (by kernel_rfl) (by kernel_rfl) (by kernel_rfl) (by kernel_rfl) (by kernel_rfl) (by kernel_rfl) (SlT.slr (slt_blk (f := Trk.cells) (xs := []) hb1 Trk.len rfl)) (SlT.slr (At.slt h)) (one_flat Trk.one) (by omega) (by omega) (by omega) (by omega) ?_
 intro v w9 hap
 obtain ⟨A9, cap9, rfl, h9, hin⟩ := SlT.of (xs := xs) hap.holds (by omega) (by simp) (fun x _ => Trk.len x)
 have hk9 : Keep (only b1) w1 w9 := hap.keep
 have hown : ∀ k, inA A9 k → w.heap.size ≤ k := fun k hk => by rcases hap.own k (hin k hk) with h | h; (have h : k = b1 := h; omega); omega
 have hsz3 := Keep.size hk9
 replace h := h.keep hk9 (by show ¬ (_ = _); omega)
 replace hK0 := Keep.fresh hK0 hk9 (by intro i hi hs; first | exact hs | exact Or.inl hs | exact Or.inr hs | (exfalso; have hs2 : i = b1 := hs; omega))
 refine OI_pick [(7, .slice A9 (0 + xs.length) cap9)] (by kernel_rfl) ?_
 refine OI_eq [(7, .slice A9 xs.length cap9)] (by rw [Nat.zero_add]) ?_
 refine OI_static 4 [(2, .slice A9 xs.length cap9)] (by kernel_rfl) ?_
 refine OI_end rfl ?_
 refine X_then ?_
 refine V_ret ?_
 exact X_return _ rfl ⟨A9, cap9, rfl, h9, hK0, hown⟩

theorem tclone_spec (A : Option Addr) (cap : Nat) (xs : List Trk) (w : World) (hA : SlT w 18 Trk.cells A cap xs) (hn : xs.length ≤ 1000000) : Calls Tryz.prog 82 #[.slice A xs.length cap] w fun e w' => ∃ A' cap', e = .returned (.slice A' xs.length cap') ∧ SlT w' 18 Trk.cells A' cap' xs ∧ Keep none_ w w' ∧ (∀ k, inA A' k → w.heap.size ≤ k) := by
  rcases Nat.eq_zero_or_pos xs.length with h0 | h0
  · obtain rfl := List.length_eq_zero_iff.1 h0
    rcases hA with ⟨rfl, rfl, _⟩ | ⟨b, o, L, T, rfl, h1, h2, h3, h4, h5⟩
    · exact (tclone_nil w).mono (by rintro e w' ⟨rfl, rfl⟩; exact ⟨none, 0, rfl, SlT.nil _ _ _, Keep.refl _ _, fun k hk => (inA_none hk).elim⟩)
    · exact tclone_at b o cap L T [] w ⟨h1, h2, h3, h4, h5⟩ hn
  · obtain ⟨b, o, L, T, rfl, h⟩ := hA.open_ h0
    exact tclone_at b o cap L T xs w h hn

set_option maxRecDepth 10000 in
theorem rnw_spec (A : Option Addr) (cap : Nat) (ts : List Trk) (w : World) (hA : SlT w 18 Trk.cells A cap ts) (hok : okTs ts) : Calls Tryz.prog 35 #[.slice A ts.length cap] w fun e w' => ∃ r g H, e = .returned (.tuple #[.pointer (some ⟨r, 0, none⟩), .int .i64 0]) ∧ Rfr H w' r g ts [] ∧ Keep none_ w w' ∧ (∀ q, H q → w.heap.size ≤ q) := by
 have hAlt := SlT.lt hA
 have hok1 := hok.1
 have hok2 := hok.2.1
 have hK0 : Keep none_ w w := Keep.refl _ _
 have hzhK0 := Keep.size hK0
 refine enterV Tryz.func35 rfl [.slice A ts.length cap] 23 rfl rfl rfl ?_
 refine V_pick [(0, .slice A ts.length cap)] rfl ?_
 refine V_seq ?_
 refine V_region ?_
 refine OI_static 2 [(0, .slice A ts.length cap)] (by kernel_rfl) ?_
 refine OI_end rfl ?_
 refine X_then ?_
 refine V_seq ?_
 refine V_region ?_
 refine OI_static 1 [(0, .slice A ts.length cap), (4, .func (.func 79) #[] #[])] (by kernel_rfl) ?_
 refine OI_end rfl ?_
 refine X_then ?_
 refine V_seq ?_
 refine V_seq ?_
 refine V_region ?_
 refine OI_static 4 [(0, .slice A ts.length cap), (4, .func (.func 79) #[] #[]), (8, .bool (decide (((ts.length : Nat) : Int) = 0)))] (by kernel_rfl) ?_
 refine OI_eq [(0, .slice A ts.length cap), (4, .func (.func 79) #[] #[]), (8, .bool false)] (by rw [decide_eq_false (by omega : ¬ (((ts.length : Nat) : Int) = 0))]) ?_
 refine OI_static 9 [(0, .slice A ts.length cap), (4, .func (.func 79) #[] #[]), (13, .bool (decide (((ts.length : Nat) : Int) > 4)))] (by kernel_rfl) ?_
 refine OI_eq [(0, .slice A ts.length cap), (4, .func (.func 79) #[] #[]), (13, .bool false)] (by rw [decide_eq_false (by omega : ¬ (((ts.length : Nat) : Int) > 4))]) ?_
 refine OI_static 11 [(0, .slice A ts.length cap), (13, .bool false), (14, .slice A ts.length cap), (15, .func (.func 79) #[] #[])] (by kernel_rfl) ?_
 refine OI_call { callee := (Callee.value (Operand.func 81)), args := #[(Operand.tmp 14), (Operand.tmp 15)], argTypes := #[29, 150] } 81 #[.slice A ts.length cap, .func (.func 79) #[] #[]] (some 16) (by kernel_rfl) (by kernel_rfl) (by kernel_rfl) (ctf_spec A cap ts _ hA hok.2.2 (by omega)) ?_
 rintro _ w3 ⟨rfl, hk4⟩
 refine ⟨_, rfl, ?_⟩
 have hsz5 := Keep.size hk4
 replace hA := SlT.keep0 hA hk4
 replace hK0 := Keep.tr hK0 (Keep.ofNone hk4)
 refine OI_static 13 [(0, .slice A ts.length cap), (17, .bool false)] (by kernel_rfl) ?_
 refine OI_end rfl ?_
 refine X_then ?_
 refine V_false rfl ?_
 refine V_skip ?_
 refine X_then ?_
 refine V_seq ?_
 refine V_region ?_
 refine OI_static 1 [(18, .slice A ts.length cap)] (by kernel_rfl) ?_
 refine OI_call { callee := (Callee.value (Operand.func 82)), args := #[(Operand.tmp 18)], argTypes := #[29] } 82 #[.slice A ts.length cap] (some 19) (by kernel_rfl) (by kernel_rfl) (by kernel_rfl) (tclone_spec A cap ts _ hA (by omega)) ?_
 rintro _ w6 ⟨A8, cap8, rfl, hA8, hk7, ow8⟩
 refine ⟨_, rfl, ?_⟩
 have hsz9 := Keep.size hk7
 replace hA := SlT.keep0 hA hk7
 replace hK0 := Keep.tr hK0 (Keep.ofNone hk7)
 have lt8 := SlT.lt hA8
 refine OI_call { callee := (Callee.value (Operand.func 83)), args := #[], argTypes := #[] } 83 #[] (some 20) (by kernel_rfl) (by kernel_rfl) (by kernel_rfl) (GQ.new_grd _) ?_
 rintro _ w12 ⟨g14, F15, rfl, ho16, hk13, hge17⟩
 refine ⟨_, rfl, ?_⟩
 have hsz18 := Keep.size hk13
 replace hA := SlT.keep0 hA hk13
 replace hA8 := SlT.keep0 hA8 hk13
 replace hK0 := Keep.tr hK0 (Keep.ofNone hk13)
 have own19 : ∀ q, F15 q → w6.heap.size ≤ q := fun q hq => by have h1 := hge17 q hq; omega
 have lt20 := GQ.Grd.lt ho16
 have dis21 : ∀ q, F15 q → ¬ inA A q := fun q h1 h2 => by have h3 := hge17 q h1; have h4 := hAlt q h2; omega
 have dis22 : ∀ q, F15 q → ¬ inA A8 q := fun q h1 h2 => by have h3 := hge17 q h1; have h4 := lt8 q h2; omega
 have hg14lt : g14 < w12.heap.size := GQ.Grd.lt ho16 _ (GQ.Grd.at_ ho16)
 have hg14ge := hge17 _ (GQ.Grd.at_ ho16)
 refine OI_static 4 [(21, .agg #[.slice A8 ts.length cap8, pt g14])] (by kernel_rfl) ?_
 refine OI_box 97 (.tmp 21) (.agg #[.slice A8 ts.length cap8, pt g14]) [.slice A8 ts.length cap8, pt g14] (some 22) (by kernel_rfl) (by kernel_rfl) (by kernel_rfl) ?_
 intro b23 w23 e23 hb23 k23 z23
 have hsz24 := Keep.size k23
 replace hA := SlT.keep0 hA k23
 replace hA8 := SlT.keep0 hA8 k23
 replace hK0 := Keep.tr hK0 (Keep.ofNone k23)
 replace ho16 := GQ.Grd.keep ho16 k23 (fun _ _ f => f)
 have hb23lt := hb23.lt
 refine OI_static 7 [(2, pt b23), (3, nt 0)] (by kernel_rfl) ?_
 refine OI_end rfl ?_
 refine X_then ?_
 refine V_ret ?_
 exact X_return _ rfl ⟨b23, g14, (fun q => F15 q ∨ inA A8 q ∨ q = b23), rfl, ⟨⟨by omega, hok.2.2, by simp, fun x hx => by cases hx⟩, fun q hq => by rcases hq with h | h | h; (have h1 := lt20 q h; omega); (have h1 := lt8 q h; omega); omega, F15, A8, cap8, ⟨hb23, hA8, ho16, (fun q h1 h2 => dis22 q h2 h1), (fun q h => by have h1 := ow8 q h; have h2 := lt8 q h; omega), (fun q h => by have h1 := lt20 q h; omega)⟩, .inr (.inr rfl), fun q h => .inl h, fun q h => .inr (.inl h)⟩, hK0, fun q hq => by rcases hq with h | h | h; (have h1 := own19 q h; omega); (have h1 := ow8 q h; omega); omega⟩
end Go.Al


namespace Go.Al
open Go Go.RowKit Go.Proofs
set_option maxRecDepth 10000 in
theorem rnew6_weak (A : Option Addr) (cap : Nat) (fs : List Int) (w : World) (hA0 : ArgT w 1 intc A cap fs) (hn : fs.length ≤ 100000) : Calls Tryz.prog 39 #[.slice A fs.length cap] w fun e w' => ∃ pv n, e = .returned (.tuple #[.pointer pv, .int .i64 n]) ∧ Keep none_ w w' := by
 have hA := hA0
 have hK0 : Keep none_ w w := Keep.refl _ _
 have hzhK0 := Keep.size hK0
 refine enterV Tryz.func39 rfl [.slice A fs.length cap] 51 rfl rfl rfl ?_
 refine V_pick [(0, .slice A fs.length cap)] rfl ?_
 refine V_seq ?_
 refine V_region ?_
 refine OI_static 2 [(0, .slice A fs.length cap)] (by kernel_rfl) ?_
 refine OI_end rfl ?_
 refine X_then ?_
 refine V_seq ?_
 refine V_seq ?_
 refine V_region ?_
 refine OI_static 3 [(0, .slice A fs.length cap), (9, .bool (decide (((fs.length : Nat) : Int) > 10)))] (by kernel_rfl) ?_
 refine OI_end rfl ?_
 refine X_then ?_
 refine V_if (((fs.length : Nat) : Int) > 10) (by kernel_rfl) (fun hc1 => ?_) (fun hc1 => ?_)
 ·
  refine V_seq ?_
  refine V_region ?_
  refine OI_static 2 [(2, .pointer none), (3, nt 1)] (by kernel_rfl) ?_
  refine OI_end rfl ?_
  refine X_then ?_
  refine V_ret ?_
  refine X_ret_then ?_
  exact X_return (.tuple #[.pointer none, nt 1]) rfl ⟨_, _, rfl, hK0⟩
 ·
  refine V_skip ?_
  refine X_then ?_
  refine V_seq ?_
  refine V_region ?_
  refine OI_make (E := 171) (sz := 3) (by_ := 40) (m := 10) (kd := .i64) (zv := .agg #[nt 0, nt 0, .slice none 0 0]) 166 (.const (Value.int IntKind.i64 10)) (.const (Value.int IntKind.i64 10)) ((List.replicate 10 [nt 0, nt 0, .slice none 0 0]).flatten) (some 10) (by kernel_rfl) (by kernel_rfl) (by kernel_rfl) (by kernel_rfl) (by kernel_rfl) (by decide) (by decide) (by kernel_rfl) ?_
  intro b2 w2 e2 hb2 k2 z2
  have hsz3 := Keep.size k2
  replace hA := ArgT.keep0 hA k2
  replace hK0 := Keep.tr hK0 (Keep.ofNone k2)
  have hb2lt := hb2.lt
  refine OI_static 2 [(0, .slice A fs.length cap), (11, .agg #[.slice (some ⟨b2, 0, none⟩) 10 10])] (by kernel_rfl) ?_
  refine OI_box 168 (.tmp 11) (.agg #[.slice (some ⟨b2, 0, none⟩) 10 10]) [.slice (some ⟨b2, 0, none⟩) 10 10] (some 12) (by kernel_rfl) (by kernel_rfl) (by kernel_rfl) ?_
  intro b4 w4 e4 hb4 k4 z4
  have hsz5 := Keep.size k4
  replace hb2 := hb2.keep k4 (fun f => f)
  replace hA := ArgT.keep0 hA k4
  replace hK0 := Keep.tr hK0 (Keep.ofNone k4)
  have hb4lt := hb4.lt
  refine OI_static 4 [(0, .slice A fs.length cap), (4, pt b4)] (by kernel_rfl) ?_
  refine OI_end rfl ?_
  refine X_then ?_
  refine V_seq ?_
  refine V_region ?_
  refine OI_static 1 [(0, .slice A fs.length cap), (4, pt b4), (5, nt 0)] (by kernel_rfl) ?_
  refine OI_end rfl ?_
  refine X_then ?_
  refine V_seq ?_
  refine V_seq ?_
  refine V_region ?_
  refine OI_static 1 [(0, .slice A fs.length cap), (4, pt b4), (5, nt 0), (6, nt 0)] (by kernel_rfl) ?_
  refine OI_end rfl ?_
  refine X_then ?_
  refine V_block ?_
  refine V_pick [(0, .slice A fs.length cap), (4, pt b4), (5, nt 0), (6, nt 0)] rfl ?_
  refine V_loop (fun k wI e => ∃ i : Nat, ∃ s5 : Int, ∃ Lx : List Value, (k + i = fs.length) ∧ (Blk wI b2 Lx 171) ∧ (Lx.length = 30) ∧ Keep (only b2) w4 wI ∧ e = [(0, .slice A fs.length cap), (4, pt b4), (5, nt s5), (6, nt ((i : Nat) : Int))]) fs.length ⟨0, 0, (List.replicate 10 [nt 0, nt 0, .slice none 0 0]).flatten, by omega, hb2, by decide, Keep.refl _ _, rfl⟩ ?_
  rintro k7 w6 _ ⟨i, s5, Lx, hki, hB, hLx, hk8, rfl⟩
  have hsz9 := Keep.size hk8
  replace hb4 := hb4.keep hk8 (by show ¬ (_ = _); omega)
  replace hA := ArgT.keep hA hk8 hA0 (fun k hk hs => by have hs : k = b2 := hs; omega)
  replace hK0 := Keep.fresh hK0 hk8 (by intro i hi hs; first | exact hs | exact Or.inl hs | exact Or.inr hs | (exfalso; have hs2 : i = b2 := hs; omega))
  have hzhk8 := Keep.size hk8
  have hb2lt := hB.lt
  refine V_seq ?_
  refine V_seq ?_
  refine V_region ?_
  refine OI_static 4 [(0, .slice A fs.length cap), (4, pt b4), (5, nt s5), (6, nt ((i : Nat) : Int)), (16, .bool (decide (((i : Nat) : Int) < ((fs.length : Nat) : Int))))] (by kernel_rfl) ?_
  refine OI_end rfl ?_
  refine X_then ?_
  refine V_if (((i : Nat) : Int) < ((fs.length : Nat) : Int)) (by kernel_rfl) (fun hc10 => ?_) (fun hc10 => ?_)
  ·
   refine V_skip ?_
   refine X_then ?_
   refine V_seq ?_
   refine V_block ?_
   refine V_seq ?_
   refine V_seq ?_
   refine V_region ?_
   refine OI_static 2 [(0, .slice A fs.length cap), (4, pt b4), (5, nt s5), (6, nt ((i : Nat) : Int)), (19, .slice A fs.length cap), (20, nt ((i : Nat) : Int))] (by kernel_rfl) ?_
   obtain ⟨b11, o11, L11, rfl, hat11⟩ := ArgT.open_ hA (by first | omega | (simp only [List.length_map]; omega) | (simp; done) | (simp; omega))
   have hb11lt0 := ArgT.lt hA0 (by first | omega | (simp only [List.length_map]; omega) | (simp; done) | (simp; omega))
   have hb11lt := hat11.blk.lt
   refine OI_pure (some 21) (.indexAddr 72 (.tmp 19) (.tmp 20)) (by kernel_rfl) (pure_idxN (b := b11) (o := o11) (len := fs.length) (cap := cap) (kd := .i64) (j := i) (E := 3) (sz := 1) (by_ := 8) (by kernel_rfl) (by kernel_rfl) (by kernel_rfl) (by omega)) ?_
   obtain ⟨x12, hx13⟩ : ∃ x, fs[i]? = some x := ⟨_, List.getElem?_eq_getElem (by first | omega | (simp only [List.length_map]; omega))⟩
   refine OI_cellR 3 (.tmp 21) (o11 + i * 1) (nt x12) (some 22) (by kernel_rfl) (by kernel_rfl) hat11.blk (m := 1) (by kernel_rfl) (AtR.cell0 hat11 (es_at hx13) rfl) ?_
   refine OI_static 6 [(0, .slice (some ⟨b11, o11, none⟩) fs.length cap), (4, pt b4), (5, nt s5), (6, nt ((i : Nat) : Int)), (24, .bool (decide (x12 < 0)))] (by kernel_rfl) ?_
   by_cases hg14 : x12 < 0
   ·
    refine OI_eq [(0, .slice (some ⟨b11, o11, none⟩) fs.length cap), (4, pt b4), (5, nt s5), (6, nt ((i : Nat) : Int)), (24, .bool true)] (by first | simp [hg14] | rfl) ?_
    refine OI_static 12 [(0, .slice (some ⟨b11, o11, none⟩) fs.length cap), (4, pt b4), (5, nt s5), (6, nt ((i : Nat) : Int)), (25, undef), (26, undef), (27, undef), (28, undef), (29, undef), (30, .bool true)] (by kernel_rfl) ?_
    refine OI_end rfl ?_
    refine X_then ?_
    refine V_true rfl ?_
    refine V_seq ?_
    refine V_region ?_
    refine OI_static 2 [(2, .pointer none), (3, nt 1)] (by kernel_rfl) ?_
    refine OI_end rfl ?_
    refine X_then ?_
    refine V_ret ?_
    refine X_ret_then ?_
    refine X_ret_block ?_
    refine X_ret_then ?_
    refine X_ret_then ?_
    refine X_ret_block ?_
    refine X_ret_then ?_
    exact X_return (.tuple #[.pointer none, nt 1]) rfl ⟨_, _, rfl, hK0⟩
   ·
    refine OI_eq [(0, .slice (some ⟨b11, o11, none⟩) fs.length cap), (4, pt b4), (5, nt s5), (6, nt ((i : Nat) : Int)), (24, .bool false)] (by first | simp [hg14] | rfl) ?_
    refine OI_static 8 [(0, .slice (some ⟨b11, o11, none⟩) fs.length cap), (4, pt b4), (5, nt s5), (6, nt ((i : Nat) : Int)), (24, .bool false), (25, .slice (some ⟨b11, o11, none⟩) fs.length cap), (26, nt ((i : Nat) : Int))] (by kernel_rfl) ?_
    refine OI_pure (some 27) (.indexAddr 72 (.tmp 25) (.tmp 26)) (by kernel_rfl) (pure_idxN (b := b11) (o := o11) (len := fs.length) (cap := cap) (kd := .i64) (j := i) (E := 3) (sz := 1) (by_ := 8) (by kernel_rfl) (by kernel_rfl) (by kernel_rfl) (by omega)) ?_
    refine OI_cellR 3 (.tmp 27) (o11 + i * 1) (nt x12) (some 28) (by kernel_rfl) (by kernel_rfl) hat11.blk (m := 1) (by kernel_rfl) (AtR.cell0 hat11 (es_at hx13) rfl) ?_
    refine OI_static 12 [(0, .slice (some ⟨b11, o11, none⟩) fs.length cap), (4, pt b4), (5, nt s5), (6, nt ((i : Nat) : Int)), (25, .slice (some ⟨b11, o11, none⟩) fs.length cap), (26, nt ((i : Nat) : Int)), (27, .pointer (some ⟨b11, o11 + i * 1, none⟩)), (28, nt x12), (29, .bool (decide (x12 > 1073741824))), (30, .bool (decide (x12 > 1073741824)))] (by kernel_rfl) ?_
    refine OI_end rfl ?_
    refine X_then ?_
    refine V_if (x12 > 1073741824) (by kernel_rfl) (fun hc15 => ?_) (fun hc15 => ?_)
    ·
     refine V_seq ?_
     refine V_region ?_
     refine OI_static 2 [(2, .pointer none), (3, nt 1)] (by kernel_rfl) ?_
     refine OI_end rfl ?_
     refine X_then ?_
     refine V_ret ?_
     refine X_ret_then ?_
     refine X_ret_block ?_
     refine X_ret_then ?_
     refine X_ret_then ?_
     refine X_ret_block ?_
     refine X_ret_then ?_
     exact X_return (.tuple #[.pointer none, nt 1]) rfl ⟨_, _, rfl, hK0⟩
    ·
     refine V_skip ?_
     refine X_then ?_
     refine V_seq ?_
     refine V_draws (acts [11]) (only b2) [[0, 1, 2, 3, 4, 5, 6, 7, 8, 9, 10, 11]] (by kernel_rfl) (by repeat first | exact sure_body (by rintro _ _ ⟨_, _, h, _⟩; exact ⟨_, h⟩) | refine sure_then ?_ | refine sure_block ?_ | refine sure_join ?_) (by kernel_rfl) ?_
     intro w17 hk16 he18 L hL19
     have hsz20 := Keep.size hk16
     replace hB := hB.keep hk16 (fun f => f)
     replace hb4 := hb4.keep hk16 (fun f => f)
     replace hat11 := hat11.keep hk16 (fun f => f)
     replace hK0 := Keep.tr hK0 (Keep.ofNone hk16)
     replace hk8 := Keep.tr hk8 (Keep.ofNone hk16)
     have qhB := hB
     have qhb4 := hb4
     have qhat11 := hat11
     have K21 : Keep (only b2) w17 w17 := Keep.refl _ _
     obtain rfl := List.mem_singleton.1 hL19
     refine GI_static [3, 4, 5, 6, 7, 8, 9, 10, 11] [(0, .slice (some ⟨b11, o11, none⟩) fs.length cap), (4, pt b4), (5, nt s5), (6, nt ((i : Nat) : Int)), (25, .slice (some ⟨b11, o11, none⟩) fs.length cap), (26, nt ((i : Nat) : Int)), (27, .pointer (some ⟨b11, o11 + i * 1, none⟩)), (28, nt x12), (29, .bool (decide (x12 > 1073741824))), (33, pt b4)] (by kernel_rfl) ?_
     refine GI_cell 166 (.tmp 33) 0 (.slice (some ⟨b2, 0, none⟩) 10 10) (some 34) (by kernel_rfl) (by kernel_rfl) (by kernel_rfl) qhb4 (by show ¬ (_ = _); omega) (m := 1) (by kernel_rfl) rfl ?_
     refine GI_static [7, 8, 9, 10, 11] [(0, .slice (some ⟨b11, o11, none⟩) fs.length cap), (4, pt b4), (5, nt s5), (6, nt ((i : Nat) : Int)), (25, .slice (some ⟨b11, o11, none⟩) fs.length cap), (26, nt ((i : Nat) : Int)), (27, .pointer (some ⟨b11, o11 + i * 1, none⟩)), (28, nt x12), (29, .bool (decide (x12 > 1073741824))), (34, .slice (some ⟨b2, 0, none⟩) 10 10), (35, nt ((i : Nat) : Int)), (36, .slice (some ⟨b11, o11, none⟩) fs.length cap), (37, nt ((i : Nat) : Int))] (by kernel_rfl) ?_
     refine GI_pure (some 38) (.indexAddr 72 (.tmp 36) (.tmp 37)) (by kernel_rfl) (by kernel_rfl) (pure_idxN (b := b11) (o := o11) (len := fs.length) (cap := cap) (kd := .i64) (j := i) (E := 3) (sz := 1) (by_ := 8) (by kernel_rfl) (by kernel_rfl) (by kernel_rfl) (by omega)) ?_
     refine GI_cellR 3 (.tmp 38) (o11 + i * 1) (nt x12) (some 39) (by kernel_rfl) (by kernel_rfl) (by kernel_rfl) qhat11.blk (by show ¬ (_ = _); omega) (m := 1) (by kernel_rfl) (AtR.cell0 qhat11 (es_at hx13) rfl) ?_
     refine GI_pure (some 40) (.indexAddr 166 (.tmp 34) (.tmp 35)) (by kernel_rfl) (by kernel_rfl) (pure_idxN (b := b2) (o := 0) (len := 10) (cap := 10) (kd := .i64) (j := i) (E := 171) (sz := 3) (by_ := 40) (by kernel_rfl) (by kernel_rfl) (by kernel_rfl) (by omega)) ?_
     refine GI_static [11] [(0, .slice (some ⟨b11, o11, none⟩) fs.length cap), (4, pt b4), (5, nt s5), (6, nt ((i : Nat) : Int)), (25, .slice (some ⟨b11, o11, none⟩) fs.length cap), (26, nt ((i : Nat) : Int)), (27, .pointer (some ⟨b11, o11 + i * 1, none⟩)), (28, nt x12), (29, .bool (decide (x12 > 1073741824))), (39, nt x12), (41, .pointer (some ⟨b2, 0 + i * 3, none⟩))] (by kernel_rfl) ?_
     refine GI_final 11 (by kernel_rfl) (by kernel_rfl) ?_
     refine OI_set (m := 1) (kd := false) 3 (.tmp 41) (.tmp 39) (0 + i * 3) (nt x12) [nt x12] none (by kernel_rfl) (by kernel_rfl) (by kernel_rfl) hB (by kernel_rfl) (by kernel_rfl) (by kernel_rfl) (by rw [hLx]; show 0 + i * 3 + 1 ≤ 30; omega) (by simp [Value.oneCell']) ?_
     intro w22 hb2_25 hk23 hz24
     replace hb2_25 : Blk w22 b2 (over Lx (0 + i * 3) [nt x12]) 171 := hb2_25
     have hsz26 := Keep.size hk23
     replace hb4 := hb4.keep hk23 (by show ¬ (_ = _); omega)
     replace hat11 := hat11.keep hk23 (by show ¬ (_ = _); omega)
     replace hK0 := Keep.fresh hK0 hk23 (by intro i hi hs; first | exact hs | exact Or.inl hs | exact Or.inr hs | (exfalso; have hs2 : i = b2 := hs; omega))
     replace hk8 := Keep.fresh hk8 hk23 (by intro i hi hs; first | exact hs | exact Or.inl hs | exact Or.inr hs | (exfalso; have hs2 : i = b2 := hs; omega))
     refine OI_end rfl ?_
     refine X_then ?_
     refine V_region ?_
     refine OI_static 3 [(0, .slice (some ⟨b11, o11, none⟩) fs.length cap), (4, pt b4), (6, nt ((i : Nat) : Int)), (25, .slice (some ⟨b11, o11, none⟩) fs.length cap), (26, nt ((i : Nat) : Int)), (27, .pointer (some ⟨b11, o11 + i * 1, none⟩)), (28, nt x12), (29, .bool (decide (x12 > 1073741824))), (42, nt s5), (43, .slice (some ⟨b11, o11, none⟩) fs.length cap), (44, nt ((i : Nat) : Int))] (by kernel_rfl) ?_
     refine OI_pure (some 45) (.indexAddr 72 (.tmp 43) (.tmp 44)) (by kernel_rfl) (pure_idxN (b := b11) (o := o11) (len := fs.length) (cap := cap) (kd := .i64) (j := i) (E := 3) (sz := 1) (by_ := 8) (by kernel_rfl) (by kernel_rfl) (by kernel_rfl) (by omega)) ?_
     refine OI_cellR 3 (.tmp 45) (o11 + i * 1) (nt x12) (some 46) (by kernel_rfl) (by kernel_rfl) hat11.blk (m := 1) (by kernel_rfl) (AtR.cell0 hat11 (es_at hx13) rfl) ?_
     refine OI_static 7 [(0, .slice (some ⟨b11, o11, none⟩) fs.length cap), (4, pt b4), (5, nt (IntKind.i64.wrap (s5 + x12))), (6, nt ((i : Nat) : Int)), (25, .slice (some ⟨b11, o11, none⟩) fs.length cap), (26, nt ((i : Nat) : Int)), (27, .pointer (some ⟨b11, o11 + i * 1, none⟩)), (28, nt x12), (29, .bool (decide (x12 > 1073741824)))] (by kernel_rfl) ?_
     refine OI_end rfl ?_
     refine X_block ?_
     refine X_then ?_
     refine V_region ?_
     have hw27 : IntKind.i64.wrap (((i : Nat) : Int) + 1) = ((i + 1 : Nat) : Int) := (wrap64_id (by omega) (by omega)).trans (by omega)
     refine OI_static 2 [(0, .slice (some ⟨b11, o11, none⟩) fs.length cap), (4, pt b4), (5, nt (IntKind.i64.wrap (s5 + x12))), (18, nt (IntKind.i64.wrap (((i : Nat) : Int) + 1))), (25, .slice (some ⟨b11, o11, none⟩) fs.length cap), (26, nt ((i : Nat) : Int)), (27, .pointer (some ⟨b11, o11 + i * 1, none⟩)), (28, nt x12), (29, .bool (decide (x12 > 1073741824)))] (by kernel_rfl) ?_
     refine OI_eq [(0, .slice (some ⟨b11, o11, none⟩) fs.length cap), (4, pt b4), (5, nt (IntKind.i64.wrap (s5 + x12))), (18, nt ((i + 1 : Nat) : Int)), (25, .slice (some ⟨b11, o11, none⟩) fs.length cap), (26, nt ((i : Nat) : Int)), (27, .pointer (some ⟨b11, o11 + i * 1, none⟩)), (28, nt x12), (29, .bool (decide (x12 > 1073741824)))] (by rw [hw27]) ?_
     refine OI_static 3 [(0, .slice (some ⟨b11, o11, none⟩) fs.length cap), (4, pt b4), (5, nt (IntKind.i64.wrap (s5 + x12))), (6, nt ((i + 1 : Nat) : Int)), (25, .slice (some ⟨b11, o11, none⟩) fs.length cap), (26, nt ((i : Nat) : Int)), (27, .pointer (some ⟨b11, o11 + i * 1, none⟩)), (28, nt x12), (29, .bool (decide (x12 > 1073741824)))] (by kernel_rfl) ?_
     refine OI_end rfl ?_
     exact V_again (k7 - 1) (by omega) [(0, .slice (some ⟨b11, o11, none⟩) fs.length cap), (4, pt b4), (5, nt (IntKind.i64.wrap (s5 + x12))), (6, nt ((i + 1 : Nat) : Int))] rfl ⟨i + 1, IntKind.i64.wrap (s5 + x12), (over Lx (0 + i * 3) [nt x12]), by omega, hb2_25, by rw [over_length (by rw [hLx]; show 0 + i * 3 + 1 ≤ 30; omega)]; exact hLx, hk8, rfl⟩
  ·
   refine V_exit ?_
   refine X_exit_then ?_
   refine X_exit_then ?_
   refine X_exit_here ?_
   refine X_then ?_
   refine V_seq ?_
   refine V_seq ?_
   refine V_region ?_
   refine OI_static 2 [(4, pt b4), (49, .bool (decide (s5 > 1073741824)))] (by kernel_rfl) ?_
   refine OI_end rfl ?_
   refine X_then ?_
   refine V_if (s5 > 1073741824) (by kernel_rfl) (fun hc28 => ?_) (fun hc28 => ?_)
   ·
    refine V_seq ?_
    refine V_region ?_
    refine OI_static 2 [(2, .pointer none), (3, nt 1)] (by kernel_rfl) ?_
    refine OI_end rfl ?_
    refine X_then ?_
    refine V_ret ?_
    refine X_ret_then ?_
    exact X_return (.tuple #[.pointer none, nt 1]) rfl ⟨_, _, rfl, hK0⟩
   ·
    refine V_skip ?_
    refine X_then ?_
    refine V_seq ?_
    refine V_region ?_
    refine OI_static 3 [(2, pt b4), (3, nt 0)] (by kernel_rfl) ?_
    refine OI_end rfl ?_
    refine X_then ?_
    refine V_ret ?_
    exact X_return (.tuple #[pt b4, nt 0]) rfl ⟨_, _, rfl, hK0⟩

set_option maxRecDepth 10000 in
theorem rnew11_weak (w : World) : Calls Tryz.prog 40 #[] w fun e w' => ∃ pv, e = .returned (.pointer pv) ∧ Keep none_ w w' := by
 have hK0 : Keep none_ w w := Keep.refl _ _
 have hzhK0 := Keep.size hK0
 refine enterV Tryz.func40 rfl [] 5 rfl rfl rfl ?_
 refine V_pick [] rfl ?_
 refine V_seq ?_
 refine V_region ?_
 refine OI_static 1 [] (by kernel_rfl) ?_
 refine OI_end rfl ?_
 refine X_then ?_
 refine V_seq ?_
 refine V_draws (acts [0, 1, 3]) none_ [[0, 1, 2, 3, 4], [1, 0, 2, 3, 4]] (by kernel_rfl) (by repeat first | exact sure_body (by rintro _ _ ⟨_, h, _⟩; exact ⟨_, h⟩) | refine sure_then ?_ | refine sure_block ?_ | refine sure_join ?_) (by kernel_rfl) ?_
 intro w2 hk1 he3 L hL4
 have hsz5 := Keep.size hk1
 replace hK0 := Keep.tr hK0 (Keep.ofNone hk1)
 have K6 : Keep none_ w2 w2 := Keep.refl _ _
 simp only [List.mem_cons, List.not_mem_nil, or_false] at hL4
 rcases hL4 with rfl | rfl
 ·
  refine GI_make (E := 222) (sz := 7) (by_ := 56) (m := 12) (kd := .i64) (zv := .agg #[.bool false, nt 0, nt 0, nt 0, nt 0, nt 0, nt 0]) 172 (.const (Value.int IntKind.i64 12)) (.const (Value.int IntKind.i64 12)) ((List.replicate 12 [.bool false, nt 0, nt 0, nt 0, nt 0, nt 0, nt 0]).flatten) (some 1) (by kernel_rfl) (by kernel_rfl) K6 (by kernel_rfl) (by kernel_rfl) (by kernel_rfl) (by kernel_rfl) (by decide) (by decide) (by kernel_rfl) ?_
  intro b7 w7 e7 hb7 k7 z7 K8
  have hsz9 := Keep.size k7
  replace hK0 := Keep.tr hK0 (Keep.ofNone k7)
  have hb7lt := hb7.lt
  refine GI_make (E := 228) (sz := 9) (by_ := 88) (m := 40) (kd := .i64) (zv := .agg #[.slice none 0 0, .bool false, nt 0, nt 0, nt 0, nt 0, nt 0, nt 0, nt 0]) 173 (.const (Value.int IntKind.i64 40)) (.const (Value.int IntKind.i64 40)) ((List.replicate 40 [.slice none 0 0, .bool false, nt 0, nt 0, nt 0, nt 0, nt 0, nt 0, nt 0]).flatten) (some 2) (by kernel_rfl) (by kernel_rfl) K8 (by kernel_rfl) (by kernel_rfl) (by kernel_rfl) (by kernel_rfl) (by decide) (by decide) (by kernel_rfl) ?_
  intro b10 w10 e10 hb10 k10 z10 K11
  have hsz12 := Keep.size k10
  replace hb7 := hb7.keep k10 (fun f => f)
  replace hK0 := Keep.tr hK0 (Keep.ofNone k10)
  have hb10lt := hb10.lt
  refine GI_static [3, 4] [(3, .agg #[.slice (some ⟨b7, 0, none⟩) 12 12, .slice (some ⟨b10, 0, none⟩) 40 40])] (by kernel_rfl) ?_
  refine GI_box 175 (.tmp 3) (.agg #[.slice (some ⟨b7, 0, none⟩) 12 12, .slice (some ⟨b10, 0, none⟩) 40 40]) [.slice (some ⟨b7, 0, none⟩) 12 12, .slice (some ⟨b10, 0, none⟩) 40 40] (some 4) (by kernel_rfl) (by kernel_rfl) K11 (by kernel_rfl) (by kernel_rfl) ?_
  intro b13 w13 e13 hb13 k13 z13 K14
  have hsz15 := Keep.size k13
  replace hb7 := hb7.keep k13 (fun f => f)
  replace hb10 := hb10.keep k13 (fun f => f)
  replace hK0 := Keep.tr hK0 (Keep.ofNone k13)
  have hb13lt := hb13.lt
  refine GI_static [] [(0, pt b13)] (by kernel_rfl) ?_
  refine GI_end ?_
  refine X_then ?_
  refine V_ret ?_
  exact X_return _ rfl ⟨_, rfl, hK0⟩
 ·
  refine GI_make (E := 228) (sz := 9) (by_ := 88) (m := 40) (kd := .i64) (zv := .agg #[.slice none 0 0, .bool false, nt 0, nt 0, nt 0, nt 0, nt 0, nt 0, nt 0]) 173 (.const (Value.int IntKind.i64 40)) (.const (Value.int IntKind.i64 40)) ((List.replicate 40 [.slice none 0 0, .bool false, nt 0, nt 0, nt 0, nt 0, nt 0, nt 0, nt 0]).flatten) (some 2) (by kernel_rfl) (by kernel_rfl) K6 (by kernel_rfl) (by kernel_rfl) (by kernel_rfl) (by kernel_rfl) (by decide) (by decide) (by kernel_rfl) ?_
  intro b16 w16 e16 hb16 k16 z16 K17
  have hsz18 := Keep.size k16
  replace hK0 := Keep.tr hK0 (Keep.ofNone k16)
  have hb16lt := hb16.lt
  refine GI_make (E := 222) (sz := 7) (by_ := 56) (m := 12) (kd := .i64) (zv := .agg #[.bool false, nt 0, nt 0, nt 0, nt 0, nt 0, nt 0]) 172 (.const (Value.int IntKind.i64 12)) (.const (Value.int IntKind.i64 12)) ((List.replicate 12 [.bool false, nt 0, nt 0, nt 0, nt 0, nt 0, nt 0]).flatten) (some 1) (by kernel_rfl) (by kernel_rfl) K17 (by kernel_rfl) (by kernel_rfl) (by kernel_rfl) (by kernel_rfl) (by decide) (by decide) (by kernel_rfl) ?_
  intro b19 w19 e19 hb19 k19 z19 K20
  have hsz21 := Keep.size k19
  replace hb16 := hb16.keep k19 (fun f => f)
  replace hK0 := Keep.tr hK0 (Keep.ofNone k19)
  have hb19lt := hb19.lt
  refine GI_static [3, 4] [(3, .agg #[.slice (some ⟨b19, 0, none⟩) 12 12, .slice (some ⟨b16, 0, none⟩) 40 40])] (by kernel_rfl) ?_
  refine GI_box 175 (.tmp 3) (.agg #[.slice (some ⟨b19, 0, none⟩) 12 12, .slice (some ⟨b16, 0, none⟩) 40 40]) [.slice (some ⟨b19, 0, none⟩) 12 12, .slice (some ⟨b16, 0, none⟩) 40 40] (some 4) (by kernel_rfl) (by kernel_rfl) K20 (by kernel_rfl) (by kernel_rfl) ?_
  intro b22 w22 e22 hb22 k22 z22 K23
  have hsz24 := Keep.size k22
  replace hb16 := hb16.keep k22 (fun f => f)
  replace hb19 := hb19.keep k22 (fun f => f)
  replace hK0 := Keep.tr hK0 (Keep.ofNone k22)
  have hb22lt := hb22.lt
  refine GI_static [] [(0, pt b22)] (by kernel_rfl) ?_
  refine GI_end ?_
  refine X_then ?_
  refine V_ret ?_
  exact X_return _ rfl ⟨_, rfl, hK0⟩

set_option maxRecDepth 10000 in
theorem rnew12_weak (A : Option Addr) (cap : Nat) (ts : List Trk) (w : World) (hA : SlT w 18 Trk.cells A cap ts) (hok : okTs ts) : Calls Tryz.prog 34 #[.slice A ts.length cap] w fun e w' => ∃ pv, e = .returned (.tuple #[.pointer pv, .int .i64 0]) ∧ Keep none_ w w' := by
 have hAlt := SlT.lt hA
 have hok1 := hok.1
 have hok2 := hok.2.1
 have hK0 : Keep none_ w w := Keep.refl _ _
 have hzhK0 := Keep.size hK0
 refine enterV Tryz.func34 rfl [.slice A ts.length cap] 30 rfl rfl rfl ?_
 refine V_pick [(0, .slice A ts.length cap)] rfl ?_
 refine V_seq ?_
 refine V_region ?_
 refine OI_static 2 [(0, .slice A ts.length cap)] (by kernel_rfl) ?_
 refine OI_end rfl ?_
 refine X_then ?_
 refine V_seq ?_
 refine V_seq ?_
 refine V_region ?_
 refine OI_static 4 [(0, .slice A ts.length cap), (8, .bool (decide (((ts.length : Nat) : Int) < 1)))] (by kernel_rfl) ?_
 refine OI_eq [(0, .slice A ts.length cap), (8, .bool false)] (by rw [decide_eq_false (by omega : ¬ (((ts.length : Nat) : Int) < 1))]) ?_
 refine OI_static 8 [(0, .slice A ts.length cap), (12, .bool (decide (((ts.length : Nat) : Int) > 4)))] (by kernel_rfl) ?_
 refine OI_end rfl ?_
 refine X_then ?_
 refine V_pick [(0, .slice A ts.length cap), (12, .bool (decide (((ts.length : Nat) : Int) > 4)))] rfl ?_
 refine V_eq [(0, .slice A ts.length cap), (12, .bool false)] (by rw [decide_eq_false (by omega : ¬ (((ts.length : Nat) : Int) > 4))]) ?_
 refine V_false rfl ?_
 refine V_skip ?_
 refine X_then ?_
 refine V_seq ?_
 refine V_seq ?_
 refine V_region ?_
 refine OI_static 1 [(0, .slice A ts.length cap), (4, nt 0)] (by kernel_rfl) ?_
 refine OI_end rfl ?_
 refine X_then ?_
 refine V_block ?_
 refine V_pick [(0, .slice A ts.length cap), (4, nt 0)] rfl ?_
 refine V_loop (fun k wI e => ∃ i : Nat, (k + i = ts.length) ∧ Keep none_ w wI ∧ e = [(0, .slice A ts.length cap), (4, nt ((i : Nat) : Int))]) ts.length ⟨0, rfl, Keep.refl _ _, rfl⟩ ?_
 rintro k4 w3 _ ⟨i, hki, hk5, rfl⟩
 have hsz6 := Keep.size hk5
 replace hA := SlT.keep0 hA hk5
 replace hK0 := Keep.tr hK0 (Keep.ofNone hk5)
 have hzhk5 := Keep.size hk5
 refine V_seq ?_
 refine V_seq ?_
 refine V_region ?_
 refine OI_static 4 [(0, .slice A ts.length cap), (4, nt ((i : Nat) : Int)), (16, .bool (decide (((i : Nat) : Int) < ((ts.length : Nat) : Int))))] (by kernel_rfl) ?_
 refine OI_end rfl ?_
 refine X_then ?_
 refine V_if (((i : Nat) : Int) < ((ts.length : Nat) : Int)) (by kernel_rfl) (fun hc7 => ?_) (fun hc7 => ?_)
 ·
  refine V_skip ?_
  refine X_then ?_
  refine V_seq ?_
  refine V_block ?_
  refine V_seq ?_
  refine V_region ?_
  refine OI_static 2 [(0, .slice A ts.length cap), (4, nt ((i : Nat) : Int)), (19, .slice A ts.length cap), (20, nt ((i : Nat) : Int))] (by kernel_rfl) ?_
  obtain ⟨b8, o8, L8, T8, rfl, hat8⟩ := SlT.open_ hA (by first | omega | (simp only [List.length_map]; omega) | (simp; done) | (simp; omega))
  have hb8lt := hat8.blk.lt
  have hob9 := hAlt b8 ⟨_, rfl, rfl⟩
  refine OI_pure (some 21) (.indexAddr 29 (.tmp 19) (.tmp 20)) (by kernel_rfl) (pure_idxN (b := b8) (o := o8) (len := ts.length) (cap := cap) (kd := .i64) (j := i) (E := 27) (sz := 18) (by_ := 144) (by kernel_rfl) (by kernel_rfl) (by kernel_rfl) (by omega)) ?_
  obtain ⟨x10, hx11⟩ : ∃ x, ts[i]? = some x := ⟨_, List.getElem?_eq_getElem (by first | omega | (simp only [List.length_map]; omega))⟩
  have hokx : okTrk x10 := hok.2.2 x10 (List.mem_of_getElem? hx11)
  refine OI_agg 27 (.tmp 21) (o8 + i * 18) (Trk.cells x10) (some 22) (by kernel_rfl) (by kernel_rfl) hat8.blk (m := 18) (by kernel_rfl) (At.elem' hat8 (es_at hx11)) (At.len hat8 (es_at hx11)) ?_
  refine OI_call { callee := (Callee.value (Operand.func 78)), args := #[(Operand.tmp 22)], argTypes := #[27] } 78 #[.agg (Trk.cells x10).toArray] (some 23) (by kernel_rfl) (by kernel_rfl) (by kernel_rfl) (r10Is_spec x10 _) ?_
  rintro _ w12 ⟨rfl, hk13⟩
  refine ⟨_, rfl, ?_⟩
  have hsz14 := Keep.size hk13
  replace hat8 := hat8.keep hk13 (fun f => f)
  replace hK0 := Keep.tr hK0 (Keep.ofNone hk13)
  replace hk5 := Keep.tr hk5 (Keep.ofNone hk13)
  refine OI_static 6 [(0, .slice (some ⟨b8, o8, none⟩) ts.length cap), (4, nt ((i : Nat) : Int)), (24, .bool (!(decide (okTrk x10))))] (by kernel_rfl) ?_
  refine OI_end rfl ?_
  refine X_then ?_
  refine V_pick [(0, .slice (some ⟨b8, o8, none⟩) ts.length cap), (4, nt ((i : Nat) : Int)), (24, .bool (!(decide (okTrk x10))))] rfl ?_
  refine V_eq [(0, .slice (some ⟨b8, o8, none⟩) ts.length cap), (4, nt ((i : Nat) : Int)), (24, .bool false)] (by rw [decide_eq_true hokx]; rfl) ?_
  refine V_false rfl ?_
  refine V_skip ?_
  refine X_block ?_
  refine X_then ?_
  refine V_region ?_
  have hw16 : IntKind.i64.wrap (((i : Nat) : Int) + 1) = ((i + 1 : Nat) : Int) := (wrap64_id (by omega) (by omega)).trans (by omega)
  refine OI_static 2 [(0, .slice (some ⟨b8, o8, none⟩) ts.length cap), (18, nt (IntKind.i64.wrap (((i : Nat) : Int) + 1)))] (by kernel_rfl) ?_
  refine OI_eq [(0, .slice (some ⟨b8, o8, none⟩) ts.length cap), (18, nt ((i + 1 : Nat) : Int))] (by rw [hw16]) ?_
  refine OI_static 3 [(0, .slice (some ⟨b8, o8, none⟩) ts.length cap), (4, nt ((i + 1 : Nat) : Int))] (by kernel_rfl) ?_
  refine OI_end rfl ?_
  exact V_again (k4 - 1) (by omega) [(0, .slice (some ⟨b8, o8, none⟩) ts.length cap), (4, nt ((i + 1 : Nat) : Int))] rfl ⟨i + 1, by omega, hk5, rfl⟩
 ·
  refine V_exit ?_
  refine X_exit_then ?_
  refine X_exit_then ?_
  refine X_exit_here ?_
  refine X_then ?_
  refine V_seq ?_
  refine V_region ?_
  refine OI_slit (E := 27) (zv := .agg #[nt 0, nt 0, nt 0, nt 0, nt 0, nt 0, nt 0, nt 0, nt 0, nt 0, nt 0, nt 0, nt 0, nt 0, nt 0, nt 0, nt 0, nt 0]) (sz := 18) (by_ := 144) 29 0 #[] [] [] (some 25) (by kernel_rfl) (by kernel_rfl) (by kernel_rfl) (by omega) rfl (by omega) (by intro v hv; cases hv) (by kernel_rfl) rfl ?_
  intro b17 w17 e17 hb17 k17 z17
  have hsz18 := Keep.size k17
  replace hA := SlT.keep0 hA k17
  replace hK0 := Keep.tr hK0 (Keep.ofNone k17)
  have hb17lt := hb17.lt
  refine OI_static 2 [(25, .slice (some ⟨b17, 0, none⟩) 0 0), (26, .slice A ts.length cap)] (by kernel_rfl) ?_
  have hl19 : ts.length = ts.length := rfl
  have hy19 := SlT.slr hA
  refine OI_append (t := 29) (at2 := 29) (E := 27) (E2 := 27) (sz := 18) (by_ := 144) (zv := .agg #[nt 0, nt 0, nt 0, nt 0, nt 0, nt 0, nt 0, nt 0, nt 0, nt 0, nt 0, nt 0, nt 0, nt 0, nt 0, nt 0, nt 0, nt 0]) (m := ([] : List Trk).length) (k := ts.length) (.tmp 25) (.tmp 26) (.slice (some ⟨b17, 0, none⟩) 0 0) (.slice A ts.length cap) (some 27) (by kernel_rfl) (by kernel_rfl) (by kernel_rfl) (by kernel_rfl) (by kernel_rfl) (by kernel_rfl) (by kernel_rfl) (SlT.slr (slt_blk (xs := ([] : List Trk)) (f := Trk.cells) (sz := 18) hb17 Trk.len rfl)) hy19 (fun u hu => by obtain ⟨z, _, hz⟩ := List.mem_flatMap.1 hu; exact Trk.one z u hz) (by first | omega | ((repeat first | rw [List.length_append] | rw [List.length_cons] | rw [List.length_nil] | rw [List.length_take] | rw [List.length_drop]) <;> omega)) (by omega) (by first | omega | ((repeat first | rw [List.length_append] | rw [List.length_cons] | rw [List.length_nil] | rw [List.length_take] | rw [List.length_drop]) <;> omega)) (by omega) ?_
  intro vv9 w19 hap
  obtain ⟨A19, cap19, rfl, hA19, hk19, own19x⟩ := app_many (f := Trk.cells) (xs := ([] : List Trk)) (ys := ts) (A := (some ⟨b17, 0, none⟩)) (cap := 0) hap hl19 Trk.len
  replace hk19 : Keep (only b17) w17 w19 := hk19.mono (fun i _ h => inA_some h)
  have own19 : ∀ q, inA A19 q → w.heap.size ≤ q := fun q hq => by rcases own19x q hq with h | h; (have h9 := inA_some h; show w.heap.size ≤ q; omega); (show w.heap.size ≤ q; omega)
  rw [List.nil_append] at hA19
  have hsz20 := Keep.size hk19
  replace hA := SlT.keep hA hk19 (fun q hq hs => by have hs : q = b17 := hs; have g1 := hAlt q hq; omega)
  replace hK0 := Keep.fresh hK0 hk19 (by intro i hi hs; first | exact hs | exact Or.inl hs | exact Or.inr hs | (exfalso; have hs2 : i = b17 := hs; omega))
  have lt19 := SlT.lt hA19
  have hcap19 := SlT.cap_le hA19
  refine OI_static 4 [(28, .agg #[.slice A19 ts.length cap19, .slice none 0 0])] (by kernel_rfl) ?_
  refine OI_box 152 (.tmp 28) (.agg #[.slice A19 ts.length cap19, .slice none 0 0]) [.slice A19 ts.length cap19, .slice none 0 0] (some 29) (by kernel_rfl) (by kernel_rfl) (by kernel_rfl) ?_
  intro b21 w21 e21 hb21 k21 z21
  have hsz22 := Keep.size k21
  replace hA := SlT.keep0 hA k21
  replace hA19 := SlT.keep0 hA19 k21
  replace hK0 := Keep.tr hK0 (Keep.ofNone k21)
  have hb21lt := hb21.lt
  refine OI_static 7 [(2, pt b21), (3, nt 0)] (by kernel_rfl) ?_
  refine OI_end rfl ?_
  refine X_then ?_
  refine V_ret ?_
  exact X_return _ rfl ⟨_, rfl, hK0⟩
end Go.Al


namespace Go.Al
open Go Go.RowKit Go.Proofs
theorem new_ok (A : Option Addr) (cap : Nat) (fs : List Int) (w : World) (hA : ArgT w 1 intc A cap fs) (hn : fs.length ≤ 100000) (hok : okP fs) : Calls Tryz.prog 26 #[.slice A fs.length cap] w fun e w' => ∃ l F, e = .returned (.tuple #[.pointer (some ⟨l, 0, none⟩), .int .i64 0]) ∧ Led F w' l (newX fs 10) [] ∧ Keep none_ w w' ∧ (∀ q, F q → w.heap.size ≤ q) :=
  (new_spec6 A cap fs w hA hn).mono (by
    rintro e w' (⟨_, h⟩ | ⟨h, _⟩)
    · exact h
    · exact absurd hok h)
def rfF : List Int := [1000, 1000, 1000, 1000, 1000, 1000, 1000, 1000, 1000, 1000]
theorem rfF_step {i : Nat} (h : i < 10) : rfF.take (i + 1) = rfF.take i ++ [1000] := by
  have h2 : i < rfF.length := h
  rw [List.take_succ_eq_append_getElem h2]
  congr 2
  exact (by decide : ∀ x ∈ rfF, x = 1000) _ (List.getElem_mem h2)
def rfX : List Acc := newX rfF 10
theorem rfF_ok : okP rfF := by
  refine ⟨by decide, by decide, ?_⟩
  have h : tot (newX rfF 10) = 10000 := by kernel_rfl
  omega

set_option maxRecDepth 10000 in
set_option maxHeartbeats 1000000 in
theorem begin_weak (A : Option Addr) (cap : Nat) (ts : List Trk) (w : World) (hA : SlT w 18 Trk.cells A cap ts) (hok : okTs ts) : Calls Tryz.prog 15 #[.slice A ts.length cap] w fun e w' => ∃ b r g v l H F G xv yv zv, e = .returned (.pointer (some ⟨b, 0, none⟩)) ∧ Blk w' b [.pointer (some ⟨l, 0, none⟩), .pointer (some ⟨v, 0, none⟩), .pointer (some ⟨r, 0, none⟩), .pointer xv, .pointer yv, .pointer zv, .int .i64 0] 39 ∧ Rfr H w' r g ts [] ∧ VotT F w' v VS.zero ∧ Led G w' l rfX [] ∧ Keep none_ w w' ∧ w.heap.size ≤ b ∧ (∀ q, H q → w.heap.size ≤ q ∧ q ≠ b) ∧ (∀ q, F q → w.heap.size ≤ q ∧ q ≠ b) ∧ (∀ q, G q → w.heap.size ≤ q ∧ q ≠ b) ∧ (∀ q, H q → ¬ F q) ∧ (∀ q, H q → ¬ G q) ∧ (∀ q, F q → ¬ G q) := by
 have hAlt := SlT.lt hA
 have hK0 : Keep none_ w w := Keep.refl _ _
 have hzhK0 := Keep.size hK0
 refine enterV Tryz.func15 rfl [.slice A ts.length cap] 76 rfl rfl rfl ?_
 refine V_pick [(0, .slice A ts.length cap)] rfl ?_
 refine V_seq ?_
 refine V_region ?_
 refine OI_static 1 [(0, .slice A ts.length cap)] (by kernel_rfl) ?_
 refine OI_end rfl ?_
 refine X_then ?_
 refine V_seq ?_
 refine V_region ?_
 refine OI_static 1 [(0, .slice A ts.length cap), (3, .slice none 0 0)] (by kernel_rfl) ?_
 refine OI_end rfl ?_
 refine X_then ?_
 refine V_seq ?_
 refine V_seq ?_
 refine V_region ?_
 refine OI_static 1 [(0, .slice A ts.length cap), (3, .slice none 0 0), (4, nt 0)] (by kernel_rfl) ?_
 refine OI_end rfl ?_
 refine X_then ?_
 refine V_block ?_
 refine V_pick [(0, .slice A ts.length cap), (3, .slice none 0 0), (4, nt 0)] rfl ?_
 refine V_loop (fun k wI e => ∃ i : Nat, ∃ A2 : Option Addr, ∃ cap2 : Nat, ∃ ms : List Int, (k + i = 10) ∧ (i ≤ 10) ∧ (ms = rfF.take i) ∧ (SlT wI 1 intc A2 cap2 ms) ∧ (∀ q, inA A2 q → w.heap.size ≤ q) ∧ Keep none_ w wI ∧ e = [(0, .slice A ts.length cap), (3, .slice A2 ms.length cap2), (4, nt ((i : Nat) : Int))]) 10 ⟨0, none, 0, [], by omega, by omega, rfl, SlT.nil _ _ _, fun q h => (inA_none h).elim, Keep.refl _ _, rfl⟩ ?_
 rintro k2 w1 _ ⟨i, A2, cap2, ms, hki, hi10, hms, hA2, ow2, hk3, rfl⟩
 have hsz4 := Keep.size hk3
 replace hA := SlT.keep0 hA hk3
 replace hK0 := Keep.tr hK0 (Keep.ofNone hk3)
 have hzhk3 := Keep.size hk3
 have lt2 := SlT.lt hA2
 have hml : ms.length = i := by rw [hms, List.length_take]; show min i 10 = i; omega
 refine V_seq ?_
 refine V_seq ?_
 refine V_region ?_
 refine OI_static 2 [(0, .slice A ts.length cap), (3, .slice A2 ms.length cap2), (4, nt ((i : Nat) : Int)), (15, .bool (decide (((i : Nat) : Int) < 10)))] (by kernel_rfl) ?_
 refine OI_end rfl ?_
 refine X_then ?_
 refine V_if (((i : Nat) : Int) < 10) (by kernel_rfl) (fun hc5 => ?_) (fun hc5 => ?_)
 ·
  refine V_skip ?_
  refine X_then ?_
  refine V_seq ?_
  refine V_block ?_
  refine V_region ?_
  refine OI_static 1 [(0, .slice A ts.length cap), (4, nt ((i : Nat) : Int)), (18, .slice A2 ms.length cap2)] (by kernel_rfl) ?_
  refine OI_slit (E := 3) (zv := nt 0) (sz := 1) (by_ := 8) 72 1 #[(0, (Operand.const (Value.int IntKind.i64 1000)))] [nt 1000] [nt 1000] (some 19) (by kernel_rfl) (by kernel_rfl) (by kernel_rfl) (by omega) rfl (by omega) (by intro v hv; simp only [List.mem_cons, List.not_mem_nil, or_false] at hv; rcases hv with rfl <;> rfl) (by kernel_rfl) rfl ?_
  intro b6 w6 e6 hb6 k6 z6
  have hsz7 := Keep.size k6
  replace hA := SlT.keep0 hA k6
  replace hA2 := SlT.keep0 hA2 k6
  replace hK0 := Keep.tr hK0 (Keep.ofNone k6)
  replace hk3 := Keep.tr hk3 (Keep.ofNone k6)
  have hb6lt := hb6.lt
  refine OI_append (t := 72) (at2 := 72) (E := 3) (E2 := 3) (sz := 1) (by_ := 8) (zv := nt 0) (m := ms.length) (k := 1) (.tmp 18) (.tmp 19) (.slice A2 ms.length cap2) (.slice (some ⟨b6, 0, none⟩) 1 1) (some 20) (by kernel_rfl) (by kernel_rfl) (by kernel_rfl) (by kernel_rfl) (by kernel_rfl) (by kernel_rfl) (by kernel_rfl) (SlT.slr hA2) (slr_one hb6 (intc_len 1000)) (intc_one 1000) (by first | omega | (simp only [List.length_nil]; omega)) (by omega) (by first | omega | (simp only [List.length_nil]; omega)) (by omega) ?_
  intro vv9 w8 hap
  obtain ⟨A8, cap8, rfl, hA8, hk8, own8x⟩ := app_one (f := intc) (xs := ms) (x := 1000) (A := A2) (cap := cap2) hap (fun x _ => intc_len x) (intc_len _)
  have own8 : ∀ q, inA A8 q → w.heap.size ≤ q := fun q hq => by rcases own8x q hq with h | h; exact ow2 q h; (show w.heap.size ≤ q; omega)
  have hsz9 := Keep.size hk8
  replace hA := SlT.keep hA hk8 (fun q hq hs => by have g1 := hAlt q hq; have h1 := ow2 q hs; have h2 := lt2 q hs; omega)
  replace hK0 := Keep.fresh hK0 hk8 (by intro i hi hs; first | exact hs | (exfalso; have h1 := ow2 i hs; have h2 := lt2 i hs; omega) | (have h1 := ow2 i hs; have h2 := lt2 i hs; show _ ∨ _; omega))
  replace hk3 := Keep.fresh hk3 hk8 (by intro i hi hs; first | exact hs | (exfalso; have h1 := ow2 i hs; have h2 := lt2 i hs; omega) | (have h1 := ow2 i hs; have h2 := lt2 i hs; show _ ∨ _; omega))
  have lt8 := SlT.lt hA8
  refine OI_static 4 [(0, .slice A ts.length cap), (3, .slice A8 ((ms ++ [1000]).length) cap8), (4, nt ((i : Nat) : Int))] (by kernel_rfl) ?_
  refine OI_end rfl ?_
  refine X_block ?_
  refine X_then ?_
  refine V_region ?_
  have hw10 : IntKind.i64.wrap (((i : Nat) : Int) + 1) = ((i + 1 : Nat) : Int) := (wrap64_id (by omega) (by omega)).trans (by omega)
  refine OI_static 2 [(0, .slice A ts.length cap), (3, .slice A8 ((ms ++ [1000]).length) cap8), (17, nt (IntKind.i64.wrap (((i : Nat) : Int) + 1)))] (by kernel_rfl) ?_
  refine OI_eq [(0, .slice A ts.length cap), (3, .slice A8 ((ms ++ [1000]).length) cap8), (17, nt ((i + 1 : Nat) : Int))] (by rw [hw10]) ?_
  refine OI_static 3 [(0, .slice A ts.length cap), (3, .slice A8 ((ms ++ [1000]).length) cap8), (4, nt ((i + 1 : Nat) : Int))] (by kernel_rfl) ?_
  refine OI_end rfl ?_
  exact V_again (k2 - 1) (by omega) [(0, .slice A ts.length cap), (3, .slice A8 ((ms ++ [1000]).length) cap8), (4, nt ((i + 1 : Nat) : Int))] rfl ⟨i + 1, A8, cap8, ms ++ [1000], by omega, by omega, by rw [rfF_step (by omega), ← hms], hA8, own8, hk3, rfl⟩
 ·
  refine V_exit ?_
  refine X_exit_then ?_
  refine X_exit_then ?_
  refine X_exit_here ?_
  refine X_then ?_
  refine V_seq ?_
  refine V_region ?_
  refine OI_static 1 [(0, .slice A ts.length cap), (3, .slice A2 ms.length cap2), (22, .slice A2 ms.length cap2)] (by kernel_rfl) ?_
  have hie : i = 10 := by omega
  replace hms : ms = rfF := by rw [hms, hie]; rfl
  refine OI_call { callee := (Callee.value (Operand.func 26)), args := #[(Operand.tmp 22)], argTypes := #[72] } 26 #[.slice A2 ms.length cap2] (some 23) (by kernel_rfl) (by kernel_rfl) (by kernel_rfl) (new_ok A2 cap2 ms _ (SlT.arg hA2) (by omega) (by rw [hms]; exact rfF_ok)) ?_
  rintro _ w11 ⟨l13, F14, rfl, ho15, hk12, hge16⟩
  refine ⟨_, rfl, ?_⟩
  have hsz17 := Keep.size hk12
  replace hA := SlT.keep0 hA hk12
  replace hA2 := SlT.keep0 hA2 hk12
  replace hK0 := Keep.tr hK0 (Keep.ofNone hk12)
  replace ho15 : Led F14 w11 l13 rfX [] := by rw [hms] at ho15; exact ho15
  have own18 : ∀ q, F14 q → w1.heap.size ≤ q := fun q hq => by have h1 := hge16 q hq; omega
  have lt19 := Led.lt ho15
  have dis20 : ∀ q, F14 q → ¬ inA A q := fun q h1 h2 => by have h3 := hge16 q h1; have h4 := hAlt q h2; omega
  have dis21 : ∀ q, F14 q → ¬ inA A2 q := fun q h1 h2 => by have h3 := hge16 q h1; have h4 := lt2 q h2; omega
  have hl13lt : l13 < w11.heap.size := Led.lt ho15 _ (Led.at_ ho15)
  have hl13ge := hge16 _ (Led.at_ ho15)
  refine OI_static 7 [(0, .slice A ts.length cap), (3, .slice A2 ms.length cap2), (5, pt l13), (6, nt 0)] (by kernel_rfl) ?_
  refine OI_end rfl ?_
  refine X_then ?_
  refine V_seq ?_
  refine V_region ?_
  refine OI_static 1 [(0, .slice A ts.length cap), (5, pt l13), (6, nt 0), (27, .slice A2 ms.length cap2)] (by kernel_rfl) ?_
  refine OI_call { callee := (Callee.value (Operand.func 39)), args := #[(Operand.tmp 27)], argTypes := #[72] } 39 #[.slice A2 ms.length cap2] (some 28) (by kernel_rfl) (by kernel_rfl) (by kernel_rfl) (rnew6_weak A2 cap2 ms _ (SlT.arg hA2) (by omega)) ?_
  rintro _ w22 ⟨pv24, n25, rfl, hk23⟩
  refine ⟨_, rfl, ?_⟩
  have hsz26 := Keep.size hk23
  replace hA := SlT.keep0 hA hk23
  replace hA2 := SlT.keep0 hA2 hk23
  replace hK0 := Keep.tr hK0 (Keep.ofNone hk23)
  replace ho15 := Led.keep ho15 hk23 (fun _ _ f => f)
  refine OI_static 7 [(0, .slice A ts.length cap), (5, pt l13), (6, nt 0), (7, .pointer pv24)] (by kernel_rfl) ?_
  refine OI_end rfl ?_
  refine X_then ?_
  refine V_seq ?_
  refine V_region ?_
  refine OI_static 1 [(0, .slice A ts.length cap), (5, pt l13), (6, nt 0), (7, .pointer pv24), (32, .slice A ts.length cap)] (by kernel_rfl) ?_
  refine OI_call { callee := (Callee.value (Operand.func 35)), args := #[(Operand.tmp 32)], argTypes := #[29] } 35 #[.slice A ts.length cap] (some 33) (by kernel_rfl) (by kernel_rfl) (by kernel_rfl) (rnw_spec A cap ts _ hA hok) ?_
  rintro _ w27 ⟨r29, gg33, H30, rfl, hR31, hk28, hge32⟩
  refine ⟨_, rfl, ?_⟩
  have hsz34 := Keep.size hk28
  replace hA := SlT.keep0 hA hk28
  replace hA2 := SlT.keep0 hA2 hk28
  replace hK0 := Keep.tr hK0 (Keep.ofNone hk28)
  replace ho15 := Led.keep ho15 hk28 (fun _ _ f => f)
  have own35 : ∀ q, H30 q → w22.heap.size ≤ q := fun q hq => by have h1 := hge32 q hq; omega
  have lt36 := Rfr.lt hR31
  have dis37 : ∀ q, H30 q → ¬ inA A q := fun q h1 h2 => by have h3 := hge32 q h1; have h4 := hAlt q h2; omega
  have dis38 : ∀ q, H30 q → ¬ inA A2 q := fun q h1 h2 => by have h3 := hge32 q h1; have h4 := lt2 q h2; omega
  have dis39 : ∀ q, H30 q → ¬ F14 q := fun q h1 h2 => by have h3 := hge32 q h1; have h4 := lt19 q h2; omega
  have hr29lt : r29 < w27.heap.size := Rfr.lt hR31 _ (Rfr.at_ hR31)
  have hr29ge := hge32 _ (Rfr.at_ hR31)
  refine OI_static 7 [(0, .slice A ts.length cap), (5, pt l13), (6, nt 0), (7, .pointer pv24), (9, pt r29), (10, nt 0)] (by kernel_rfl) ?_
  refine OI_end rfl ?_
  refine X_then ?_
  refine V_seq ?_
  refine V_region ?_
  refine OI_static 1 [(5, pt l13), (6, nt 0), (7, .pointer pv24), (9, pt r29), (10, nt 0), (37, .slice A ts.length cap)] (by kernel_rfl) ?_
  refine OI_call { callee := (Callee.value (Operand.func 34)), args := #[(Operand.tmp 37)], argTypes := #[29] } 34 #[.slice A ts.length cap] (some 38) (by kernel_rfl) (by kernel_rfl) (by kernel_rfl) (rnew12_weak A cap ts _ hA hok) ?_
  rintro _ w40 ⟨pv42, rfl, hk41⟩
  refine ⟨_, rfl, ?_⟩
  have hsz43 := Keep.size hk41
  replace hA := SlT.keep0 hA hk41
  replace hA2 := SlT.keep0 hA2 hk41
  replace hK0 := Keep.tr hK0 (Keep.ofNone hk41)
  replace ho15 := Led.keep ho15 hk41 (fun _ _ f => f)
  replace hR31 := Rfr.keep hR31 hk41 (fun _ _ f => f)
  refine OI_static 7 [(5, pt l13), (6, nt 0), (7, .pointer pv24), (9, pt r29), (10, nt 0), (11, .pointer pv42), (12, nt 0)] (by kernel_rfl) ?_
  refine OI_end rfl ?_
  refine X_then ?_
  refine V_seq ?_
  refine V_region ?_
  refine OI_static 1 [(5, pt l13), (6, nt 0), (7, .pointer pv24), (9, pt r29), (10, nt 0), (11, .pointer pv42), (12, nt 0), (41, pt l13)] (by kernel_rfl) ?_
  refine OI_call { callee := (Callee.value (Operand.func 27)), args := #[], argTypes := #[] } 27 #[] (some 42) (by kernel_rfl) (by kernel_rfl) (by kernel_rfl) (new_votT _) ?_
  rintro _ w46 ⟨g48, F49, rfl, ho50, hk47, hge51⟩
  refine ⟨_, rfl, ?_⟩
  have hsz52 := Keep.size hk47
  replace hA := SlT.keep0 hA hk47
  replace hA2 := SlT.keep0 hA2 hk47
  replace hK0 := Keep.tr hK0 (Keep.ofNone hk47)
  replace ho15 := Led.keep ho15 hk47 (fun _ _ f => f)
  replace hR31 := Rfr.keep hR31 hk47 (fun _ _ f => f)
  have own53 : ∀ q, F49 q → w40.heap.size ≤ q := fun q hq => by have h1 := hge51 q hq; omega
  have lt54 := VotT.lt ho50
  have dis55 : ∀ q, F49 q → ¬ inA A q := fun q h1 h2 => by have h3 := hge51 q h1; have h4 := hAlt q h2; omega
  have dis56 : ∀ q, F49 q → ¬ inA A2 q := fun q h1 h2 => by have h3 := hge51 q h1; have h4 := lt2 q h2; omega
  have dis57 : ∀ q, F49 q → ¬ F14 q := fun q h1 h2 => by have h3 := hge51 q h1; have h4 := lt19 q h2; omega
  have dis58 : ∀ q, F49 q → ¬ H30 q := fun q h1 h2 => by have h3 := hge51 q h1; have h4 := lt36 q h2; omega
  have hg48lt : g48 < w46.heap.size := VotT.lt ho50 _ (VotT.at_ ho50)
  have hg48ge := hge51 _ (VotT.at_ ho50)
  refine OI_static 4 [(5, pt l13), (6, nt 0), (9, pt r29), (10, nt 0), (11, .pointer pv42), (12, nt 0), (41, pt l13), (42, pt g48), (43, pt r29), (44, .pointer pv24)] (by kernel_rfl) ?_
  refine OI_call { callee := (Callee.value (Operand.func 40)), args := #[], argTypes := #[] } 40 #[] (some 45) (by kernel_rfl) (by kernel_rfl) (by kernel_rfl) (rnew11_weak _) ?_
  rintro _ w59 ⟨pv61, rfl, hk60⟩
  refine ⟨_, rfl, ?_⟩
  have hsz62 := Keep.size hk60
  replace hA := SlT.keep0 hA hk60
  replace hA2 := SlT.keep0 hA2 hk60
  replace hK0 := Keep.tr hK0 (Keep.ofNone hk60)
  replace ho15 := Led.keep ho15 hk60 (fun _ _ f => f)
  replace hR31 := Rfr.keep hR31 hk60 (fun _ _ f => f)
  replace ho50 := VotT.keep ho50 hk60 (fun _ _ f => f)
  refine OI_static 7 [(5, pt l13), (6, nt 0), (9, pt r29), (10, nt 0), (12, nt 0), (47, .agg #[pt l13, pt g48, pt r29, .pointer pv24, .pointer pv61, .pointer pv42, nt 0])] (by kernel_rfl) ?_
  refine OI_box 39 (.tmp 47) (.agg #[pt l13, pt g48, pt r29, .pointer pv24, .pointer pv61, .pointer pv42, nt 0]) [pt l13, pt g48, pt r29, .pointer pv24, .pointer pv61, .pointer pv42, nt 0] (some 48) (by kernel_rfl) (by kernel_rfl) (by kernel_rfl) ?_
  intro b63 w63 e63 hb63 k63 z63
  have hsz64 := Keep.size k63
  replace hA := SlT.keep0 hA k63
  replace hA2 := SlT.keep0 hA2 k63
  replace hK0 := Keep.tr hK0 (Keep.ofNone k63)
  replace ho15 := Led.keep ho15 k63 (fun _ _ f => f)
  replace hR31 := Rfr.keep hR31 k63 (fun _ _ f => f)
  replace ho50 := VotT.keep ho50 k63 (fun _ _ f => f)
  have hb63lt := hb63.lt
  refine OI_static 9 [(5, pt l13), (6, nt 0), (9, pt r29), (10, nt 0), (12, nt 0), (13, pt b63)] (by kernel_rfl) ?_
  refine OI_end rfl ?_
  refine X_then ?_
  refine V_seq ?_
  refine V_seq ?_
  refine V_region ?_
  refine OI_static 10 [(9, pt r29), (10, nt 0), (12, nt 0), (13, pt b63), (55, .bool false), (58, .pointer (some ⟨b63, 1, none⟩))] (by kernel_rfl) ?_
  refine OI_cell 33 (.tmp 58) 1 (pt g48) (some 59) (by kernel_rfl) (by kernel_rfl) hb63 (m := 1) (by kernel_rfl) rfl ?_
  refine OI_static 26 [(13, pt b63), (74, .bool false)] (by kernel_rfl) ?_
  refine OI_end rfl ?_
  refine X_then ?_
  refine V_false rfl ?_
  refine V_skip ?_
  refine X_then ?_
  refine V_seq ?_
  refine V_region ?_
  refine OI_static 2 [(2, pt b63)] (by kernel_rfl) ?_
  refine OI_end rfl ?_
  refine X_then ?_
  refine V_ret ?_
  exact X_return _ rfl ⟨b63, r29, gg33, g48, l13, H30, F49, F14, pv24, pv61, pv42, rfl, hb63, hR31, ho50, ho15, hK0, by omega, (fun q hq => ⟨by have h1 := own35 q hq; omega, by have h1 := lt36 q hq; omega⟩), (fun q hq => ⟨by have h1 := own53 q hq; omega, by have h1 := lt54 q hq; omega⟩), (fun q hq => ⟨by have h1 := own18 q hq; omega, by have h1 := lt19 q hq; omega⟩), (fun q h1 h2 => dis58 q h2 h1), dis39, dis57⟩
end Go.Al


namespace Go.Al
open Go Go.RowKit Go.Proofs
set_option maxRecDepth 10000 in
theorem rall_spec (H : Nat → Prop) (r g : Nat) (ts : List Trk) (rs : List Rfm) (w : World) (hR : Rfr H w r g ts rs) : Calls Tryz.prog 20 #[.pointer (some ⟨r, 0, none⟩)] w fun e w' => ∃ Ak capk, e = .returned (.tuple #[.slice Ak rs.length capk, .bool true]) ∧ SlT w' 45 Rfm.cells Ak capk rs ∧ (∀ q, inA Ak q → w.heap.size ≤ q) ∧ Keep none_ w w' := by
 have hHlt := Rfr.lt hR
 have hrH := Rfr.at_ hR
 have hgH := Rfr.atg hR
 have hrlt := hHlt _ hrH
 have hglt := hHlt _ hgH
 have hin := Rfr.inn hR
 obtain ⟨A, cap, hr, hA, hAo, hrg⟩ := Rfr.parts hR
 have hAlt := SlT.lt hA
 have hAr : ∀ q, inA A q → q ≠ r ∧ q ≠ g ∧ q < w.heap.size := fun q hq => ⟨(hAo q hq).2.1, (hAo q hq).2.2, hAlt q hq⟩
 have hgo : ∀ q, only g q → q ≠ r ∧ q = g := fun q hq => ⟨fun e => hrg (e.symm.trans hq), hq⟩
 have hgl : ∀ q, only g q → q < w.heap.size := fun q hq => by rw [show q = g from hq]; exact hglt
 have hHo : ∀ q, H q → 0 ≤ q := fun q _ => Nat.zero_le q
 have htl := hin.tl
 have hrl := hin.rl
 have hK0 : Keep none_ w w := Keep.refl _ _
 have hzhK0 := Keep.size hK0
 refine enterM Tryz.func20 rfl [pt r] 28 rfl rfl rfl ?_
 refine V_pick [(0, pt r)] rfl ?_
 refine V_seq ?_
 refine V_region ?_
 refine OI_alloc 45 (.slice none 0 0) [.slice none 0 0] (some 2) (by kernel_rfl) (by kernel_rfl) (by kernel_rfl) ?_
 intro b1 w1 e1 hb1 k1 z1
 have hsz2 := Keep.size k1
 replace hr := hr.keep k1 (fun f => f)
 replace hA := SlT.keep0 hA k1
 replace hR := Rfr.keep hR k1 (fun _ _ f => f)
 replace hK0 := Keep.tr hK0 (Keep.ofNone k1)
 have hb1lt := hb1.lt
 refine OI_alloc 4 (.bool false) [.bool false] (some 3) (by kernel_rfl) (by kernel_rfl) (by kernel_rfl) ?_
 intro b3 w3 e3 hb3 k3 z3
 have hsz4 := Keep.size k3
 replace hr := hr.keep k3 (fun f => f)
 replace hb1 := hb1.keep k3 (fun f => f)
 replace hA := SlT.keep0 hA k3
 replace hR := Rfr.keep hR k3 (fun _ _ f => f)
 replace hK0 := Keep.tr hK0 (Keep.ofNone k3)
 have hb3lt := hb3.lt
 refine OI_end rfl ?_
 refine X_then ?_
 refine V_seq ?_
 refine V_region ?_
 refine OI_static 1 [(2, pt b1), (3, pt b3), (8, pt r)] (by kernel_rfl) ?_
 refine OI_call { callee := (Callee.value (Operand.func 48)), args := #[(Operand.tmp 8)], argTypes := #[34] } 48 #[pt r] (some 9) (by kernel_rfl) (by kernel_rfl) (by kernel_rfl) (all_at r g _ _ _ _ hr) ?_
 rintro _ w5 ⟨bg7, bs8, bn9, rfl, hbg7, hbs8, hbn9, hk6, hgebg7, hgebs8, hgebn9⟩
 refine ⟨_, rfl, ?_⟩
 have hsz10 := Keep.size hk6
 replace hr := hr.keep hk6 (fun f => f)
 replace hb1 := hb1.keep hk6 (fun f => f)
 replace hb3 := hb3.keep hk6 (fun f => f)
 replace hA := SlT.keep0 hA hk6
 replace hR := Rfr.keep hR hk6 (fun _ _ f => f)
 replace hK0 := Keep.tr hK0 (Keep.ofNone hk6)
 have hbg7lt := hbg7.lt
 have hbs8lt := hbs8.lt
 have hbn9lt := hbn9.lt
 refine OI_static 3 [(2, pt b1), (3, pt b3), (4, .func (.func 183) #[] #[pt bg7, pt bs8, pt bn9])] (by kernel_rfl) ?_
 refine OI_end rfl ?_
 refine X_then ?_
 refine V_seq ?_
 refine V_seq ?_
 refine V_region ?_
 refine OI_static 2 [(2, pt b1), (3, pt b3), (4, .func (.func 183) #[] #[pt bg7, pt bs8, pt bn9]), (11, .bool false)] (by kernel_rfl) ?_
 refine OI_end rfl ?_
 refine X_then ?_
 refine V_false rfl ?_
 refine V_skip ?_
 refine X_then ?_
 refine V_seq ?_
 refine V_region ?_
 refine OI_alloc 45 (.slice none 0 0) [.slice none 0 0] (some 5) (by kernel_rfl) (by kernel_rfl) (by kernel_rfl) ?_
 intro b11 w11 e11 hb11 k11 z11
 have hsz12 := Keep.size k11
 replace hr := hr.keep k11 (fun f => f)
 replace hb1 := hb1.keep k11 (fun f => f)
 replace hb3 := hb3.keep k11 (fun f => f)
 replace hbg7 := hbg7.keep k11 (fun f => f)
 replace hbs8 := hbs8.keep k11 (fun f => f)
 replace hbn9 := hbn9.keep k11 (fun f => f)
 replace hA := SlT.keep0 hA k11
 replace hR := Rfr.keep hR k11 (fun _ _ f => f)
 replace hK0 := Keep.tr hK0 (Keep.ofNone k11)
 have hb11lt := hb11.lt
 refine OI_end rfl ?_
 refine X_then ?_
 refine V_seq ?_
 refine V_seq ?_
 refine V_region ?_
 refine OI_static 1 [(2, pt b1), (3, pt b3), (5, pt b11), (12, .func (.func 183) #[] #[pt bg7, pt bs8, pt bn9])] (by kernel_rfl) ?_
 refine OI_end rfl ?_
 refine X_then ?_
 refine V_block ?_
 obtain ⟨D, hD9, hDH⟩ := Rfr.grqF hR
 obtain ⟨_, _, _, _, A2, cap2, hat2, hAD2⟩ := hD9
 have hA2 := hat2.sl
 have owA2 : ∀ q, inA A2 q → q < w.heap.size := fun q hq => hHlt q (hDH q (hAD2 q hq))
 refine V_pick [(2, pt b1), (3, pt b3), (5, pt b11), (12, .func (.func 183) #[] #[pt bg7, pt bs8, pt bn9])] rfl ?_
 have hN0 : w.heap.size ≤ w11.heap.size := Keep.size hK0
 refine V_range2 (gf := 183) (caps := #[pt bg7, pt bs8, pt bn9]) (m := rs.length) (by kernel_rfl) (by kernel_rfl) (by kernel_rfl) (alongQ bg7 bs8 bn9 g cap2 A2 rs (by omega)) (⟨hbg7, hat2, ⟨hbs8, hbn9, hA2⟩⟩) (fun W W' h k => ⟨h.1.quiet k, h.2.1.quiet k, h.2.2.quiet k⟩) (GQ.enc2_size _) (fun M1 k W => ∃ Ak : Option Addr, ∃ capk : Nat, (Blk W r [.slice A ts.length cap, pt g] 97) ∧ (Blk W b1 [.slice none 0 0] 45) ∧ (Blk W b3 [.bool false] 4) ∧ (Blk W bs8 [nt 0] 3) ∧ (Blk W bn9 [nt 0] 3) ∧ (SlT W 47 GQ.Ci.cells A2 cap2 (cellsQ 0 rs)) ∧ (Keep none_ w W) ∧ (Blk W b11 [.slice Ak ((rs.take k).length) capk] 45) ∧ (SlT W 45 Rfm.cells Ak capk (rs.take k)) ∧ (∀ q, inA Ak q → M1 ≤ q)) (fun M1 c k W => False) (fun M1 k W W' h hk => by obtain ⟨Ak, capk, jr, jb1, jb3, jbs8, jbn9, jA2, jhK0, jb11, jAk, ownk⟩ := h; exact ⟨Ak, capk, jr.quiet hk, jb1.quiet hk, jb3.quiet hk, jbs8.quiet hk, jbn9.quiet hk, jA2.quiet hk, jhK0.quiet hk (by omega), jb11.quiet hk, jAk.quiet hk, ownk⟩) (fun _ _ _ _ _ h _ => h.elim) (fun M1 hM1 => ⟨none, 0, hr, hb1, hb3, hbs8, hbn9, hA2, hK0, hb11, SlT.nil _ _ _, fun q h => (inA_none h).elim⟩) (fun M1 k W h => by obtain ⟨Ak, capk, jr, jb1, jb3, jbs8, jbn9, jA2, jhK0, jb11, jAk, ownk⟩ := h; exact ⟨jbs8, jbn9, jA2⟩) ?_ ?_ (fun _ _ _ _ _ _ _ _ h _ => h.elim)
 ·
  intro lp D M1 k W hD hl hM hMW hkm ⟨Ak, capk, jr, jb1, jb3, jbs8, jbn9, jA2, jhK0, jb11, jAk, ownk⟩ ⟨rr, hrr⟩ hDD
  have hzjhK0 := Keep.size jhK0
  have hrlt := jr.lt
  have hb1lt := jb1.lt
  have hb3lt := jb3.lt
  have hbs8lt := jbs8.lt
  have hbn9lt := jbn9.lt
  have hb11lt := jb11.lt
  have ltjA2 := SlT.lt jA2
  have ltjAk := SlT.lt jAk
  obtain ⟨x, hx⟩ : ∃ x, rs[k]? = some x := ⟨_, List.getElem?_eq_getElem (by omega)⟩
  rw [GQ.enc2_at (zipQ_at0 hx)]
  have hlk : (rs.take k).length = k := by rw [List.length_take]; omega
  have hs1 : rs.take (k + 1) = rs.take k ++ [x] := by obtain ⟨h1, h2⟩ := List.getElem?_eq_some_iff.1 hx; rw [List.take_succ_eq_append_getElem h1, h2]
  refine V_pick [(2, pt b1), (3, pt b3), (5, pt b11), (13, nt ((k : Nat) : Int)), (14, .agg (Rfm.cells x).toArray)] rfl ?_
  have hfen : Keep (fen w11.heap.size M1) W W := Keep.refl _ _
  have hzhfen := Keep.size hfen
  refine V_seq ?_
  refine V_region ?_
  refine OI_static 1 [(2, pt b1), (3, pt b3), (5, pt b11), (6, nt ((k : Nat) : Int)), (14, .agg (Rfm.cells x).toArray)] (by kernel_rfl) ?_
  refine OI_end rfl ?_
  refine X_then ?_
  refine V_region ?_
  refine OI_alloc 57 (.agg (Rfm.cells Rfm.zero).toArray) (Rfm.cells Rfm.zero) (some 7) (by kernel_rfl) (by kernel_rfl) (by kernel_rfl) ?_
  intro b13 w13 e13 hb13 k13 z13
  have hsz14 := Keep.size k13
  replace jr := jr.keep k13 (fun f => f)
  replace jb1 := jb1.keep k13 (fun f => f)
  replace jb3 := jb3.keep k13 (fun f => f)
  replace jbs8 := jbs8.keep k13 (fun f => f)
  replace jbn9 := jbn9.keep k13 (fun f => f)
  replace jb11 := jb11.keep k13 (fun f => f)
  replace jA2 := SlT.keep0 jA2 k13
  replace jAk := SlT.keep0 jAk k13
  replace jhK0 := Keep.tr jhK0 (Keep.ofNone k13)
  replace hfen := Keep.tr hfen (Keep.ofNone k13)
  have hb13lt := hb13.lt
  refine OI_set (m := 45) (kd := true) 57 (.tmp 7) (.tmp 14) 0 (.agg (Rfm.cells x).toArray) (Rfm.cells x) none (by kernel_rfl) (by kernel_rfl) (by kernel_rfl) hb13 (by kernel_rfl) rfl (Rfm.len _) (Nat.le_of_ble_eq_true (by kernel_rfl)) (Rfm.one _) ?_
  intro w15 hb13_18 hk16 hz17
  replace hb13_18 : Blk w15 b13 (Rfm.cells x) 57 := (Blk.eqL (Rfm.over _ _) hb13_18)
  have hsz19 := Keep.size hk16
  replace jr := jr.keep hk16 (by show ¬ (_ = _); omega)
  replace jb1 := jb1.keep hk16 (by show ¬ (_ = _); omega)
  replace jb3 := jb3.keep hk16 (by show ¬ (_ = _); omega)
  replace jbs8 := jbs8.keep hk16 (by show ¬ (_ = _); omega)
  replace jbn9 := jbn9.keep hk16 (by show ¬ (_ = _); omega)
  replace jb11 := jb11.keep hk16 (by show ¬ (_ = _); omega)
  replace jA2 := SlT.keep jA2 hk16 (fun q hq hs => by have hs : q = b13 := hs; have g0 := owA2 q hq; have g1 := ltjA2 q hq; omega)
  replace jAk := SlT.keep jAk hk16 (fun q hq hs => by have hs : q = b13 := hs; have g0 := ownk q hq; have g1 := ltjAk q hq; omega)
  replace jhK0 := Keep.fresh jhK0 hk16 (by intro i hi hs; first | exact hs | exact Or.inl hs | exact Or.inr hs | (exfalso; have hs2 : i = b13 := hs; omega))
  replace hfen := Keep.fresh hfen hk16 (by intro i hi hs; have hs2 : i = b13 := hs; show _ ∨ _; omega)
  refine OI_end rfl ?_
  refine X_begin2 hfen ?_
  intro W2 hk2 ⟨r2, hr2⟩ hD2
  have hsz20 := Keep.size hk2
  replace jr := Blk.quiet jr hk2
  replace jb1 := Blk.quiet jb1 hk2
  replace jb3 := Blk.quiet jb3 hk2
  replace jbs8 := Blk.quiet jbs8 hk2
  replace jbn9 := Blk.quiet jbn9 hk2
  replace jb11 := Blk.quiet jb11 hk2
  replace hb13_18 := Blk.quiet hb13_18 hk2
  replace jA2 := SlT.quiet jA2 hk2
  replace jAk := SlT.quiet jAk hk2
  replace jhK0 := Keep.quiet jhK0 hk2 (by omega)
  have hzhk2 := Keep.size hk2
  have hfenb : Keep (fen w11.heap.size M1) W2 W2 := Keep.refl _ _
  have hzhfenb := Keep.size hfenb
  refine V_block ?_
  refine V_seq ?_
  refine V_seq ?_
  refine V_region ?_
  refine OI_static 1 [(2, pt b1), (3, pt b3), (5, pt b11), (6, nt ((k : Nat) : Int)), (7, pt b13), (15, nt ((k : Nat) : Int))] (by kernel_rfl) ?_
  refine OI_cell 45 (.tmp 5) 0 (.slice Ak ((rs.take k).length) capk) (some 16) (by kernel_rfl) (by kernel_rfl) jb11 (m := 1) (by kernel_rfl) rfl ?_
  refine OI_static 5 [(2, pt b1), (3, pt b3), (5, pt b11), (6, nt ((k : Nat) : Int)), (7, pt b13), (19, .bool (!(decide (((k : Nat) : Int) = (((rs.take k).length : Nat) : Int)))))] (by kernel_rfl) ?_
  refine OI_eq [(2, pt b1), (3, pt b3), (5, pt b11), (6, nt ((k : Nat) : Int)), (7, pt b13), (19, .bool false)] (by rw [decide_eq_true (show (((k : Nat) : Int)) = _ by rw [hlk])]; rfl) ?_
  refine OI_static 8 [(2, pt b1), (3, pt b3), (5, pt b11), (7, pt b13), (22, .bool (decide (((k : Nat) : Int) > 100)))] (by kernel_rfl) ?_
  refine OI_end rfl ?_
  refine X_then ?_
  refine V_if (((k : Nat) : Int) > 100) (by kernel_rfl) (fun hc22 => ?_) (fun hc22 => ?_)
  ·
   exact (by omega : False).elim
  ·
   refine V_skip ?_
   refine X_then ?_
   refine V_region ?_
   refine OI_cell 45 (.tmp 5) 0 (.slice Ak ((rs.take k).length) capk) (some 23) (by kernel_rfl) (by kernel_rfl) jb11 (m := 1) (by kernel_rfl) rfl ?_
   refine OI_agg 57 (.tmp 7) 0 (Rfm.cells x) (some 24) (by kernel_rfl) (by kernel_rfl) hb13_18 (m := 45) (by kernel_rfl) (take_all (Rfm.len _)) (Rfm.len _) ?_
   refine OI_slit (E := 57) (zv := .agg #[nt 0, nt 0, .int .u8 0, .int .u8 0, .int .u8 0, .int .u8 0, .int .u8 0, .int .u8 0, .int .u8 0, .int .u8 0, .int .u8 0, .int .u8 0, .int .u8 0, .int .u8 0, .int .u8 0, .int .u8 0, .int .u8 0, .int .u8 0, .int .u8 0, .int .u8 0, .int .u8 0, .int .u8 0, .int .u8 0, .int .u8 0, .int .u8 0, .int .u8 0, .int .u8 0, .int .u8 0, .int .u8 0, .int .u8 0, .int .u8 0, .int .u8 0, .int .u8 0, .int .u8 0, nt 0, nt 0, nt 0, .bool false, nt 0, nt 0, nt 0, nt 0, nt 0, nt 0, nt 0]) (sz := 45) (by_ := 136) 45 1 #[(0, (Operand.tmp 24))] [.agg (Rfm.cells x).toArray] (Rfm.cells x) (some 25) (by kernel_rfl) (by kernel_rfl) (by kernel_rfl) (by omega) rfl (by omega) (by intro v hv; obtain rfl := List.mem_singleton.1 hv; show (Rfm.cells x).toArray.size = 45; simp [Rfm.len]) (by kernel_rfl) (by show (Rfm.cells x).toArray.toList ++ [] = _; simp) ?_
   intro b23 w23 e23 hb23 k23 z23
   have hsz24 := Keep.size k23
   replace jr := jr.keep k23 (fun f => f)
   replace jb1 := jb1.keep k23 (fun f => f)
   replace jb3 := jb3.keep k23 (fun f => f)
   replace jbs8 := jbs8.keep k23 (fun f => f)
   replace jbn9 := jbn9.keep k23 (fun f => f)
   replace jb11 := jb11.keep k23 (fun f => f)
   replace hb13_18 := hb13_18.keep k23 (fun f => f)
   replace jA2 := SlT.keep0 jA2 k23
   replace jAk := SlT.keep0 jAk k23
   replace jhK0 := Keep.tr jhK0 (Keep.ofNone k23)
   replace hfenb := Keep.tr hfenb (Keep.ofNone k23)
   have hb23lt := hb23.lt
   refine OI_append (t := 45) (at2 := 45) (E := 57) (E2 := 57) (sz := 45) (by_ := 136) (zv := .agg #[nt 0, nt 0, .int .u8 0, .int .u8 0, .int .u8 0, .int .u8 0, .int .u8 0, .int .u8 0, .int .u8 0, .int .u8 0, .int .u8 0, .int .u8 0, .int .u8 0, .int .u8 0, .int .u8 0, .int .u8 0, .int .u8 0, .int .u8 0, .int .u8 0, .int .u8 0, .int .u8 0, .int .u8 0, .int .u8 0, .int .u8 0, .int .u8 0, .int .u8 0, .int .u8 0, .int .u8 0, .int .u8 0, .int .u8 0, .int .u8 0, .int .u8 0, .int .u8 0, .int .u8 0, nt 0, nt 0, nt 0, .bool false, nt 0, nt 0, nt 0, nt 0, nt 0, nt 0, nt 0]) (m := (rs.take k).length) (k := 1) (.tmp 23) (.tmp 25) (.slice Ak ((rs.take k).length) capk) (.slice (some ⟨b23, 0, none⟩) 1 1) (some 26) (by kernel_rfl) (by kernel_rfl) (by kernel_rfl) (by kernel_rfl) (by kernel_rfl) (by kernel_rfl) (by kernel_rfl) (SlT.slr jAk) (slr_one hb23 (Rfm.len x)) (Rfm.one x) (by first | omega | (simp only [List.length_nil]; omega)) (by omega) (by first | omega | (simp only [List.length_nil]; omega)) (by omega) ?_
   intro vv9 w25 hap
   obtain ⟨A25, cap25, rfl, hA25, hk25, own25x⟩ := app_one (f := Rfm.cells) (xs := (rs.take k)) (x := x) (A := Ak) (cap := capk) hap (fun x _ => Rfm.len x) (Rfm.len _)
   have own25 : ∀ q, inA A25 q → M1 ≤ q := fun q hq => by rcases own25x q hq with h | h; exact ownk q h; (show M1 ≤ q; omega)
   have hsz26 := Keep.size hk25
   replace jr := jr.keep hk25 (fun hs => by have h1 := ownk _ hs; have h2 := ltjAk _ hs; omega)
   replace jb1 := jb1.keep hk25 (fun hs => by have h1 := ownk _ hs; have h2 := ltjAk _ hs; omega)
   replace jb3 := jb3.keep hk25 (fun hs => by have h1 := ownk _ hs; have h2 := ltjAk _ hs; omega)
   replace jbs8 := jbs8.keep hk25 (fun hs => by have h1 := ownk _ hs; have h2 := ltjAk _ hs; omega)
   replace jbn9 := jbn9.keep hk25 (fun hs => by have h1 := ownk _ hs; have h2 := ltjAk _ hs; omega)
   replace jb11 := jb11.keep hk25 (fun hs => by have h1 := ownk _ hs; have h2 := ltjAk _ hs; omega)
   replace hb13_18 := hb13_18.keep hk25 (fun hs => by have h1 := ownk _ hs; have h2 := ltjAk _ hs; omega)
   replace jA2 := SlT.keep jA2 hk25 (fun q hq hs => by have g0 := owA2 q hq; have g1 := ltjA2 q hq; have h1 := ownk q hs; have h2 := ltjAk q hs; omega)
   replace jhK0 := Keep.fresh jhK0 hk25 (by intro i hi hs; first | exact hs | (exfalso; have h1 := ownk i hs; have h2 := ltjAk i hs; omega) | (have h1 := ownk i hs; have h2 := ltjAk i hs; show _ ∨ _; omega))
   replace hfenb := Keep.fresh hfenb hk25 (by intro i hi hs; have h1 := ownk i hs; have h2 := ltjAk i hs; show _ ∨ _; omega)
   have lt25 := SlT.lt hA25
   refine OI_set (m := 1) (kd := false) 45 (.tmp 5) (.tmp 26) 0 (.slice A25 (((rs.take k) ++ [x]).length) cap25) [.slice A25 (((rs.take k) ++ [x]).length) cap25] none (by kernel_rfl) (by kernel_rfl) (by kernel_rfl) jb11 (by kernel_rfl) (by kernel_rfl) (by kernel_rfl) (Nat.le_of_ble_eq_true (by kernel_rfl)) (by simp [Value.oneCell']) ?_
   intro w27 hb11_30 hk28 hz29
   replace hb11_30 : Blk w27 b11 [.slice A25 (((rs.take k) ++ [x]).length) cap25] 45 := hb11_30
   have hsz31 := Keep.size hk28
   replace jr := jr.keep hk28 (by show ¬ (_ = _); omega)
   replace jb1 := jb1.keep hk28 (by show ¬ (_ = _); omega)
   replace jb3 := jb3.keep hk28 (by show ¬ (_ = _); omega)
   replace jbs8 := jbs8.keep hk28 (by show ¬ (_ = _); omega)
   replace jbn9 := jbn9.keep hk28 (by show ¬ (_ = _); omega)
   replace hb13_18 := hb13_18.keep hk28 (by show ¬ (_ = _); omega)
   replace jA2 := SlT.keep jA2 hk28 (fun q hq hs => by have hs : q = b11 := hs; have g0 := owA2 q hq; have g1 := ltjA2 q hq; omega)
   replace hA25 := SlT.keep hA25 hk28 (fun q hq hs => by have hs : q = b11 := hs; have g0 := own25 q hq; have g1 := lt25 q hq; omega)
   replace jhK0 := Keep.fresh jhK0 hk28 (by intro i hi hs; first | exact hs | exact Or.inl hs | exact Or.inr hs | (exfalso; have hs2 : i = b11 := hs; omega))
   replace hfenb := Keep.fresh hfenb hk28 (by intro i hi hs; have hs2 : i = b11 := hs; show _ ∨ _; omega)
   refine OI_end rfl ?_
   refine X_block ?_
   exact fun a _ => ⟨hfenb, A25, cap25, jr, jb1, jb3, jbs8, jbn9, jA2, jhK0, by rw [hs1]; exact hb11_30, by rw [hs1]; exact hA25, own25⟩
 ·
  intro D M1 W hD hM ⟨Ak, capk, jr, jb1, jb3, jbs8, jbn9, jA2, jhK0, jb11, jAk, ownk⟩ hDD
  have hzjhK0 := Keep.size jhK0
  have hrlt := jr.lt
  have hb1lt := jb1.lt
  have hb3lt := jb3.lt
  have hbs8lt := jbs8.lt
  have hbn9lt := jbn9.lt
  have hb11lt := jb11.lt
  have ltjA2 := SlT.lt jA2
  have ltjAk := SlT.lt jAk
  rw [List.take_length] at jAk jb11
  refine X_block ?_
  refine X_then ?_
  refine V_seq ?_
  refine V_region ?_
  refine OI_cell 45 (.tmp 5) 0 (.slice Ak rs.length capk) (some 27) (by kernel_rfl) (by kernel_rfl) jb11 (m := 1) (by kernel_rfl) rfl ?_
  refine OI_set (m := 1) (kd := false) 45 (.tmp 2) (.tmp 27) 0 (.slice Ak rs.length capk) [.slice Ak rs.length capk] none (by kernel_rfl) (by kernel_rfl) (by kernel_rfl) jb1 (by kernel_rfl) (by kernel_rfl) (by kernel_rfl) (Nat.le_of_ble_eq_true (by kernel_rfl)) (by simp [Value.oneCell']) ?_
  intro w32 hb1_35 hk33 hz34
  replace hb1_35 : Blk w32 b1 [.slice Ak rs.length capk] 45 := hb1_35
  have hsz36 := Keep.size hk33
  replace jr := jr.keep hk33 (by show ¬ (_ = _); omega)
  replace jb3 := jb3.keep hk33 (by show ¬ (_ = _); omega)
  replace jbs8 := jbs8.keep hk33 (by show ¬ (_ = _); omega)
  replace jbn9 := jbn9.keep hk33 (by show ¬ (_ = _); omega)
  replace jb11 := jb11.keep hk33 (by show ¬ (_ = _); omega)
  replace jAk := SlT.keep jAk hk33 (fun q hq hs => by have hs : q = b1 := hs; have g0 := ownk q hq; have g1 := ltjAk q hq; omega)
  replace jhK0 := Keep.fresh jhK0 hk33 (by intro i hi hs; first | exact hs | exact Or.inl hs | exact Or.inr hs | (exfalso; have hs2 : i = b1 := hs; omega))
  replace hDD := (Keep.block hk33 _ (Array.getElem?_eq_some_iff.1 hDD).1 (by show ¬ (_ = _); omega)).trans hDD
  refine OI_set (m := 1) (kd := false) 4 (.tmp 3) (.const (Value.bool true)) 0 (.bool true) [.bool true] none (by kernel_rfl) (by kernel_rfl) (by kernel_rfl) jb3 (by kernel_rfl) (by kernel_rfl) (by kernel_rfl) (Nat.le_of_ble_eq_true (by kernel_rfl)) (by simp [Value.oneCell']) ?_
  intro w37 hb3_40 hk38 hz39
  replace hb3_40 : Blk w37 b3 [.bool true] 4 := hb3_40
  have hsz41 := Keep.size hk38
  replace jr := jr.keep hk38 (by show ¬ (_ = _); omega)
  replace hb1_35 := hb1_35.keep hk38 (by show ¬ (_ = _); omega)
  replace jbs8 := jbs8.keep hk38 (by show ¬ (_ = _); omega)
  replace jbn9 := jbn9.keep hk38 (by show ¬ (_ = _); omega)
  replace jb11 := jb11.keep hk38 (by show ¬ (_ = _); omega)
  replace jAk := SlT.keep jAk hk38 (fun q hq hs => by have hs : q = b3 := hs; have g0 := ownk q hq; have g1 := ltjAk q hq; omega)
  replace jhK0 := Keep.fresh jhK0 hk38 (by intro i hi hs; first | exact hs | exact Or.inl hs | exact Or.inr hs | (exfalso; have hs2 : i = b3 := hs; omega))
  replace hDD := (Keep.block hk38 _ (Array.getElem?_eq_some_iff.1 hDD).1 (by show ¬ (_ = _); omega)).trans hDD
  refine OI_end rfl ?_
  refine X_then ?_
  refine V_ret ?_
  exact leave1 (.tuple #[.slice Ak rs.length capk, .bool true]) (.inl rfl) hDD (fun w' hk => ⟨res_cells2 (n1 := 1) (n2 := 1) rfl rfl rfl (by kernel_rfl) (by kernel_rfl) (Blk.quiet hb1_35 hk) (Blk.quiet hb3_40 hk) , ⟨Ak, capk, rfl, SlT.quiet jAk hk, (fun q h => by have h1 := ownk q h; omega), Keep.quiet jhK0 hk (by omega)⟩⟩)
end Go.Al

