/-
  Put together out of 6 texts: Walks of package refer: Submit. Walks of package refer: Deposit, Refund. Walks of package refer: begins. Walks of package refer: decides. Walks of package refer: ends, Cancel. Walks of package refer: Service.
-/
import Derived.Test.YtjjfimbihdoknaaGreatReferTracksB3
namespace Go.Al
open Go Go.RowKit Go.Proofs
section
variable {xs : List Acc} {cs : List Ci} {s : VS} {ts : List Trk} {rs : List Rfm} {who of after ref now : Int}
theorem subE1 (h : (trkO ts of).isSome = false ∨ who < 0 ∨ who ≥ 10 ∨ after < 0 ∨ after > 1000) : subE xs cs s ts rs who of after = 1 := by
  unfold subE
  rw [if_pos (h.imp (fun h => by cases h9 : trkO ts of with
    | none => rfl
    | some _ => rw [h9] at h; cases h) id)]
theorem closeE4 {s : VS} {ref : Int} : closeE s ref 0 = 4 ↔ (pollAt s ref).isSome = false := by
  unfold closeE
  cases pollAt s ref with
  | none => simp
  | some q =>
    simp only [Option.isSome_some, reduceCtorEq, iff_false]
    split
    · decide
    · decide
theorem closeS0 (s : VS) (ref e : Int) : closeS s ref 0 e = s := by
  unfold closeS
  cases hp : pollAt s ref with
  | none => rfl
  | some q =>
    dsimp only
    have : closeE s ref 0 ≠ 0 := by
      unfold closeE; rw [hp]; dsimp only
      split
      · decide
      · decide
    rw [if_neg this]
theorem subEx (h1 : (trkO ts of).isSome = true) (h2 : ¬ (who < 0 ∨ who ≥ 10 ∨ after < 0 ∨ after > 1000)) : subE xs cs s ts rs who of after = if rs.length ≥ 12 then 3 else if (pollAt s rs.length).isSome then 5 else spendsE xs cs who 10 := by
  unfold subE
  rw [if_neg]
  rintro (h | h)
  · simp_all
  · exact h2 h
theorem sub_no {k : Int} (h : subE xs cs s ts rs who of after = k) (hk : k ≠ 0) : subX xs cs s ts rs who of after = xs ∧ subS xs cs s ts rs who of after = s ∧ ∀ sum now, subR xs cs s ts rs who of after sum now = rs := by
  refine ⟨?_, ?_, fun sum now => ?_⟩
  · unfold subX; rw [h, if_neg hk]
  · unfold subS; rw [h, if_neg hk]
  · unfold subR; rw [h, if_neg hk]
theorem sub_go (h : subE xs cs s ts rs who of after = 0) : subX xs cs s ts rs who of after = resX xs cs who 10 ∧ subS xs cs s ts rs who of after = openS s rs.length of ∧ ∀ sum now, subR xs cs s ts rs who of after sum now = rs ++ [newR of sum after now who] := by
  refine ⟨?_, ?_, fun sum now => ?_⟩
  · unfold subX; rw [if_pos h]
  · unfold subS; rw [if_pos h]
  · unfold subR; rw [if_pos h]
theorem trk_some (h : (trkO ts of).isSome = true) : 0 ≤ of ∧ of < ts.length := by
  unfold trkO at h
  split at h
  · assumption
  · cases h
end

set_option maxRecDepth 10000 in
set_option maxHeartbeats 1000000 in
theorem submit_spec (H : Nat → Prop) (r g : Nat) (ts : List Trk) (rs : List Rfm) (F : Nat → Prop) (v : Nat) (s : VS) (G : Nat → Prop) (l : Nat) (xs : List Acc) (cs : List Ci) (who of : Int) (sum : Nat → Int) (after now : Int) (w : World) (hR : Rfr H w r g ts rs) (hV : VotT F w v s) (hl : Led G w l xs cs) (hHF : ∀ q, H q → ¬ F q) (hHG : ∀ q, H q → ¬ G q) (hFG : ∀ q, F q → ¬ G q) : Calls Tryz.prog 17 #[.pointer (some ⟨r, 0, none⟩), .pointer (some ⟨l, 0, none⟩), .pointer (some ⟨v, 0, none⟩), .int .i64 who, .int .i64 of, .agg (hshc sum).toArray, .int .i64 after, .int .i64 now] w fun e w' => e = .returned (.tuple #[.int .i64 (if subE xs cs s ts rs who of after = 0 then (rs.length : Int) else 0), .int .i64 (subE xs cs s ts rs who of after)]) ∧ (∃ H' F' G', Rfr H' w' r g ts (subR xs cs s ts rs who of after sum now) ∧ VotT F' w' v (subS xs cs s ts rs who of after) ∧ Led G' w' l (subX xs cs s ts rs who of after) cs ∧ (∀ q, H' q → H q ∨ w.heap.size ≤ q) ∧ (∀ q, F' q → F q ∨ w.heap.size ≤ q) ∧ (∀ q, G' q → G q ∨ w.heap.size ≤ q) ∧ (∀ q, H' q → ¬ F' q) ∧ (∀ q, H' q → ¬ G' q) ∧ (∀ q, F' q → ¬ G' q)) ∧ Keep (fun q => q = g ∨ F q ∨ G q) w w' := by
 have hHlt := Rfr.lt hR
 have hrH := Rfr.at_ hR
 have hgH := Rfr.atg hR
 have hrlt := hHlt _ hrH
 have hglt := hHlt _ hgH
 have hin := Rfr.inn hR
 obtain ⟨A, cap, hr, hA, hAo, hrg⟩ := Rfr.parts hR
 have hAlt := SlT.lt hA
 have hAr : ∀ q, inA A q → q ≠ r ∧ q ≠ g ∧ q < w.heap.size := fun q hq => ⟨(hAo q hq).2.1, (hAo q hq).2.2, hAlt q hq⟩
 have hgo : ∀ q, only g q → q ≠ r ∧ q = g := fun q hq => ⟨fun e => hrg (e.symm.trans hq), hq⟩
 have hgl : ∀ q, only g q → q < w.heap.size := fun q hq => by rw [show q = g from hq]; exact hglt
 have hHo : ∀ q, H q → 0 ≤ q := fun q _ => Nat.zero_le q
 have htl := hin.tl
 have hrl := hin.rl
 have hFlt := VotT.lt hV
 have hvlt := hFlt _ (VotT.at_ hV)
 have hVr : ∀ q, F q → q ≠ r := fun q hq e => hHF r hrH (e ▸ hq)
 have hGlt := Led.lt hl
 have hllt := hGlt _ (Led.at_ hl)
 have hlr : ∀ q, G q → q ≠ r := fun q hq e => hHG r hrH (e ▸ hq)
 have hinv := Led.inv hl
 have hHr : ∀ q, H q → H q ∨ w.heap.size ≤ q := fun _ h => .inl h
 have hFr : ∀ q, F q → F q ∨ w.heap.size ≤ q := fun _ h => .inl h
 have hGr : ∀ q, G q → G q ∨ w.heap.size ≤ q := fun _ h => .inl h
 have hK0 : Keep (fun q => q = g ∨ F q ∨ G q) w w := Keep.refl _ _
 have hzhK0 := Keep.size hK0
 refine enterV Tryz.func17 rfl [pt r, pt l, pt v, nt who, nt of, .agg (hshc sum).toArray, nt after, nt now] 95 rfl rfl rfl ?_
 refine V_pick [(0, pt r), (1, pt l), (2, pt v), (3, nt who), (4, nt of), (5, .agg (hshc sum).toArray), (6, nt after), (7, nt now)] rfl ?_
 refine Vr ?_
 refine OI_box 42 (.tmp 5) (.agg (hshc sum).toArray) (hshc sum) (some 13) (by kernel_rfl) (by kernel_rfl) rfl ?_
 intro b1 w1 e1 hb1 k1 z1
 have hsz2 := Keep.size k1
 replace hr := hr.keep k1 (fun f => f)
 replace hA := SlT.keep0 hA k1
 replace hR := Rfr.keep hR k1 (fun _ _ f => f)
 replace hV := VotT.keep hV k1 (fun _ _ f => f)
 replace hl := Led.keep hl k1 (fun _ _ f => f)
 replace hK0 := Keep.tr hK0 (Keep.ofNone k1)
 have hb1lt := hb1.lt
 refine Os 3 [(0, pt r), (1, pt l), (2, pt v), (3, nt who), (4, nt of), (6, nt after), (7, nt now), (13, pt b1)] ?_
 refine Oer ?_
 refine Os 2 [(0, pt r), (1, pt l), (2, pt v), (3, nt who), (4, nt of), (6, nt after), (7, nt now), (13, pt b1), (23, pt r), (24, nt of)] ?_
 refine Ok { callee := (Callee.value (Operand.func 29)), args := #[(Operand.tmp 23), (Operand.tmp 24)], argTypes := #[34, 3] } 29 #[pt r, nt of] (some 25) (rtrack_spec H r g ts rs of _ hR) ?_
 rintro _ w3 ⟨rfl, hk4⟩
 refine ⟨_, rfl, ?_⟩
 have hsz5 := Keep.size hk4
 replace hr := hr.keep hk4 (fun f => f)
 replace hb1 := hb1.keep hk4 (fun f => f)
 replace hA := SlT.keep0 hA hk4
 replace hR := Rfr.keep hR hk4 (fun _ _ f => f)
 replace hV := VotT.keep hV hk4 (fun _ _ f => f)
 replace hl := Led.keep hl hk4 (fun _ _ f => f)
 replace hK0 := Keep.tr hK0 (Keep.ofNone hk4)
 refine Os 6 [(0, pt r), (1, pt l), (2, pt v), (3, nt who), (4, nt of), (6, nt after), (7, nt now), (13, pt b1), (26, .agg (Trk.cells (trkA ts of)).toArray), (27, .bool ((trkO ts of).isSome))] ?_
 refine OI_alloc 27 (.agg (Trk.cells Trk.zero).toArray) (Trk.cells Trk.zero) (some 18) (by kernel_rfl) (by kernel_rfl) (by kernel_rfl) ?_
 intro b6 w6 e6 hb6 k6 z6
 have hsz7 := Keep.size k6
 replace hr := hr.keep k6 (fun f => f)
 replace hb1 := hb1.keep k6 (fun f => f)
 replace hA := SlT.keep0 hA k6
 replace hR := Rfr.keep hR k6 (fun _ _ f => f)
 replace hV := VotT.keep hV k6 (fun _ _ f => f)
 replace hl := Led.keep hl k6 (fun _ _ f => f)
 replace hK0 := Keep.tr hK0 (Keep.ofNone k6)
 have hb6lt := hb6.lt
 refine OI_set (m := 18) (kd := true) 27 (.tmp 18) (.tmp 26) 0 (.agg (Trk.cells (trkA ts of)).toArray) (Trk.cells (trkA ts of)) none (by kernel_rfl) (by kernel_rfl) (by kernel_rfl) hb6 (by kernel_rfl) rfl (Trk.len _) (Nat.le_of_ble_eq_true (by kernel_rfl)) (Trk.one _) ?_
 intro w8 hb6_11 hk9 hz10
 replace hb6_11 : Blk w8 b6 (Trk.cells (trkA ts of)) 27 := (Blk.eqL (Trk.over _ _) hb6_11)
 have hsz12 := Keep.size hk9
 replace hr := hr.keep hk9 (by show ¬ (_ = _); omega)
 replace hb1 := hb1.keep hk9 (by show ¬ (_ = _); omega)
 replace hA := SlT.keep hA hk9 (fun q hq hs => by have hs : q = b6 := hs; have g0 := hAr q hq; have g1 := hAlt q hq; omega)
 replace hR := Rfr.keep hR hk9 (fun q hq hs => by have hs : q = b6 := hs; have g0 := hHo q hq; have g1 := hHlt q hq; omega)
 replace hV := VotT.keep hV hk9 (fun q hq hs => by have hs : q = b6 := hs; have g0 := hVr q hq; have g1 := hFlt q hq; omega)
 replace hl := Led.keep hl hk9 (fun q hq hs => by have hs : q = b6 := hs; have g0 := hlr q hq; have g1 := hGlt q hq; omega)
 replace hK0 := Keep.fresh hK0 hk9 (by intro i hi hs; first | exact hs | exact Or.inl hs | exact Or.inr hs | (exfalso; have hs2 : i = b6 := hs; omega))
 refine Os 9 [(0, pt r), (1, pt l), (2, pt v), (3, nt who), (4, nt of), (6, nt after), (7, nt now), (13, pt b1), (19, .bool ((trkO ts of).isSome))] ?_
 refine Oe ?_
 refine V_seq ?_
 refine V_block ?_
 refine Vr ?_
 refine Os 3 [(0, pt r), (1, pt l), (2, pt v), (3, nt who), (4, nt of), (6, nt after), (7, nt now), (13, pt b1), (31, .bool (!((trkO ts of).isSome)))] ?_
 cases hg13 : (!((trkO ts of).isSome))
 ·
  refine OI_eq [(0, pt r), (1, pt l), (2, pt v), (3, nt who), (4, nt of), (6, nt after), (7, nt now), (13, pt b1), (31, .bool false)] (by first | rfl | rw [hg13]) ?_
  refine Os 15 [(0, pt r), (1, pt l), (2, pt v), (3, nt who), (4, nt of), (6, nt after), (7, nt now), (13, pt b1), (43, .bool (decide (who < 0)))] ?_
  by_cases hg14 : who < 0
  ·
   refine OI_eq [(0, pt r), (1, pt l), (2, pt v), (3, nt who), (4, nt of), (6, nt after), (7, nt now), (13, pt b1), (43, .bool true)] (by first | simp [hg14] | rfl) ?_
   refine Os 27 [(0, pt r), (1, pt l), (2, pt v), (3, nt who), (4, nt of), (6, nt after), (7, nt now), (13, pt b1), (28, .bool true)] ?_
   refine Oe ?_
   refine V_true rfl ?_
   refine Vr ?_
   refine Os 2 [(16, nt 0), (17, nt 1)] ?_
   refine Oe ?_
   refine V_ret ?_
   refine X_ret_block ?_
   refine X_ret_then ?_
   have hE15 : subE xs cs s ts rs who of after = 1 := subE1 (.inr <| .inl hg14)
   obtain ⟨h115, h215, h315⟩ := sub_no hE15 (by decide)
   exact X_return (.tuple #[nt 0, nt 1]) rfl ⟨by rw [hE15]; rfl, ⟨H, F, G, (by rw [h315]; exact hR), (by rw [h215]; exact hV), (by rw [h115]; exact hl), hHr, hFr, hGr, hHF, hHG, hFG⟩, hK0⟩
  refine OI_eq [(0, pt r), (1, pt l), (2, pt v), (3, nt who), (4, nt of), (6, nt after), (7, nt now), (13, pt b1), (43, .bool false)] (by first | simp [hg14] | rfl) ?_
  refine Os 19 [(0, pt r), (1, pt l), (2, pt v), (3, nt who), (4, nt of), (6, nt after), (7, nt now), (13, pt b1), (47, .bool (decide (who ≥ 10)))] ?_
  by_cases hg16 : who ≥ 10
  ·
   refine OI_eq [(0, pt r), (1, pt l), (2, pt v), (3, nt who), (4, nt of), (6, nt after), (7, nt now), (13, pt b1), (47, .bool true)] (by first | simp [hg16] | rfl) ?_
   refine Os 27 [(0, pt r), (1, pt l), (2, pt v), (3, nt who), (4, nt of), (6, nt after), (7, nt now), (13, pt b1), (28, .bool true)] ?_
   refine Oe ?_
   refine V_true rfl ?_
   refine Vr ?_
   refine Os 2 [(16, nt 0), (17, nt 1)] ?_
   refine Oe ?_
   refine V_ret ?_
   refine X_ret_block ?_
   refine X_ret_then ?_
   have hE17 : subE xs cs s ts rs who of after = 1 := subE1 (.inr <| .inr <| .inl hg16)
   obtain ⟨h117, h217, h317⟩ := sub_no hE17 (by decide)
   exact X_return (.tuple #[nt 0, nt 1]) rfl ⟨by rw [hE17]; rfl, ⟨H, F, G, (by rw [h317]; exact hR), (by rw [h217]; exact hV), (by rw [h117]; exact hl), hHr, hFr, hGr, hHF, hHG, hFG⟩, hK0⟩
  refine OI_eq [(0, pt r), (1, pt l), (2, pt v), (3, nt who), (4, nt of), (6, nt after), (7, nt now), (13, pt b1), (47, .bool false)] (by first | simp [hg16] | rfl) ?_
  refine Os 23 [(0, pt r), (1, pt l), (2, pt v), (3, nt who), (4, nt of), (6, nt after), (7, nt now), (13, pt b1), (51, .bool (decide (after < 0)))] ?_
  by_cases hg18 : after < 0
  ·
   refine OI_eq [(0, pt r), (1, pt l), (2, pt v), (3, nt who), (4, nt of), (6, nt after), (7, nt now), (13, pt b1), (51, .bool true)] (by first | simp [hg18] | rfl) ?_
   refine Os 27 [(0, pt r), (1, pt l), (2, pt v), (3, nt who), (4, nt of), (6, nt after), (7, nt now), (13, pt b1), (28, .bool true)] ?_
   refine Oe ?_
   refine V_true rfl ?_
   refine Vr ?_
   refine Os 2 [(16, nt 0), (17, nt 1)] ?_
   refine Oe ?_
   refine V_ret ?_
   refine X_ret_block ?_
   refine X_ret_then ?_
   have hE19 : subE xs cs s ts rs who of after = 1 := subE1 (.inr <| .inr <| .inr <| .inl hg18)
   obtain ⟨h119, h219, h319⟩ := sub_no hE19 (by decide)
   exact X_return (.tuple #[nt 0, nt 1]) rfl ⟨by rw [hE19]; rfl, ⟨H, F, G, (by rw [h319]; exact hR), (by rw [h219]; exact hV), (by rw [h119]; exact hl), hHr, hFr, hGr, hHF, hHG, hFG⟩, hK0⟩
  refine OI_eq [(0, pt r), (1, pt l), (2, pt v), (3, nt who), (4, nt of), (6, nt after), (7, nt now), (13, pt b1), (51, .bool false)] (by first | simp [hg18] | rfl) ?_
  refine Os 27 [(0, pt r), (1, pt l), (2, pt v), (3, nt who), (4, nt of), (6, nt after), (7, nt now), (13, pt b1), (28, .bool (decide (after > 1000)))] ?_
  refine Oe ?_
  refine V_if (after > 1000) (by kernel_rfl) (fun hc20 => ?_) (fun hc20 => ?_)
  ·
   refine Vr ?_
   refine Os 2 [(16, nt 0), (17, nt 1)] ?_
   refine Oe ?_
   refine V_ret ?_
   refine X_ret_block ?_
   refine X_ret_then ?_
   have hE21 : subE xs cs s ts rs who of after = 1 := subE1 (.inr <| .inr <| .inr <| .inr <| hc20)
   obtain ⟨h121, h221, h321⟩ := sub_no hE21 (by decide)
   exact X_return (.tuple #[nt 0, nt 1]) rfl ⟨by rw [hE21]; rfl, ⟨H, F, G, (by rw [h321]; exact hR), (by rw [h221]; exact hV), (by rw [h121]; exact hl), hHr, hFr, hGr, hHF, hHG, hFG⟩, hK0⟩
  refine Vr ?_
  refine Os 3 [(0, pt r), (1, pt l), (2, pt v), (3, nt who), (4, nt of), (6, nt after), (7, nt now), (13, pt b1), (58, .pointer (some ⟨r, 1, none⟩))] ?_
  refine Oc 95 (.tmp 58) 1 (pt g) (some 59) hr rfl ?_
  refine Ok { callee := (Callee.value (Operand.func 41)), args := #[(Operand.tmp 59)], argTypes := #[95] } 41 #[pt g] (some 60) (qlen_spec H r g ts rs _ hR) ?_
  rintro _ w8 ⟨rfl, rfl⟩
  refine ⟨_, rfl, ?_⟩
  refine Os 7 [(0, pt r), (1, pt l), (2, pt v), (3, nt who), (4, nt of), (6, nt after), (7, nt now), (13, pt b1), (55, .bool (decide (((rs.length : Nat) : Int) ≥ 12)))] ?_
  refine Oe ?_
  refine V_if (((rs.length : Nat) : Int) ≥ 12) (by kernel_rfl) (fun hc25 => ?_) (fun hc25 => ?_)
  ·
   refine Vr ?_
   refine Os 2 [(16, nt 0), (17, nt 3)] ?_
   refine Oe ?_
   refine V_ret ?_
   refine X_ret_block ?_
   refine X_ret_then ?_
   have hE26 : subE xs cs s ts rs who of after = 3 := by
     rw [subEx (who := who) (of := of) (after := after) (ts := ts) (by simpa using hg13) (by omega)]
     rw [if_pos (by omega)]
   obtain ⟨h126, h226, h326⟩ := sub_no hE26 (by decide)
   exact X_return (.tuple #[nt 0, nt 3]) rfl ⟨by rw [hE26]; rfl, ⟨H, F, G, (by rw [h326]; exact hR), (by rw [h226]; exact hV), (by rw [h126]; exact hl), hHr, hFr, hGr, hHF, hHG, hFG⟩, hK0⟩
  refine V_skip ?_
  refine X_block ?_
  refine X_then ?_
  refine Vr ?_
  refine Os 3 [(0, pt r), (1, pt l), (2, pt v), (3, nt who), (4, nt of), (6, nt after), (7, nt now), (13, pt b1), (64, .pointer (some ⟨r, 1, none⟩))] ?_
  refine Oc 95 (.tmp 64) 1 (pt g) (some 65) hr rfl ?_
  refine Ok { callee := (Callee.value (Operand.func 41)), args := #[(Operand.tmp 65)], argTypes := #[95] } 41 #[pt g] (some 66) (qlen_spec H r g ts rs _ hR) ?_
  rintro _ w8 ⟨rfl, rfl⟩
  refine ⟨_, rfl, ?_⟩
  refine Os 6 [(0, pt r), (1, pt l), (2, pt v), (3, nt who), (4, nt of), (6, nt after), (7, nt now), (13, pt b1), (20, nt ((rs.length : Nat) : Int))] ?_
  refine Oe ?_
  refine V_seq ?_
  refine Vr ?_
  refine Os 3 [(0, pt r), (1, pt l), (2, pt v), (3, nt who), (4, nt of), (6, nt after), (7, nt now), (13, pt b1), (20, nt ((rs.length : Nat) : Int)), (67, pt v), (68, nt ((rs.length : Nat) : Int)), (69, nt now)] ?_
  refine Ok { callee := (Callee.value (Operand.func 42)), args := #[(Operand.tmp 67), (Operand.tmp 68), (Operand.const (Value.int IntKind.i64 0)), (Operand.tmp 69)], argTypes := #[33, 3, 3, 3] } 42 #[pt v, nt ((rs.length : Nat) : Int), nt 0, nt now] (some 70) (close_specT F v s ((rs.length : Nat) : Int) 0 now _ hV) ?_
  rintro _ w32 ⟨rfl, ⟨F34, ho35, hfr36⟩, hk33⟩
  refine ⟨_, rfl, ?_⟩
  have hsz37 := Keep.size hk33
  replace hr := hr.keep hk33 (fun hs => by have h1 := hVr _ hs; have h2 := hFlt _ hs; omega)
  replace hb1 := hb1.keep hk33 (fun hs => by have h1 := hVr _ hs; have h2 := hFlt _ hs; omega)
  replace hb6_11 := hb6_11.keep hk33 (fun hs => by have h1 := hVr _ hs; have h2 := hFlt _ hs; omega)
  replace hA := SlT.keep hA hk33 (fun q hq hs => (fun q h1 h2 => hHF q (hAo q h2).1 h1) q hs hq)
  replace hR := Rfr.keep hR hk33 (fun q hq hs => (fun q h1 h2 => hHF q h2 h1) q hs hq)
  replace hl := Led.keep hl hk33 (fun q hq hs => hFG q hs hq)
  replace hK0 := Keep.fresh hK0 hk33 (fun i hi hs => by rcases hFr i hs with h | h; exact .inr <| .inl h; (exfalso; omega))
  have own39 : ∀ q, F34 q → q ≠ r ∧ q ≠ r ∧ q ≠ b1 ∧ q ≠ b6 := fun q hq => by rcases hfr36 q hq with h | h; (have h1 := hVr q h; have h2 := hFlt q h; omega); omega
  have lt38 := VotT.lt ho35
  have rel40 : ∀ q, F34 q → F q ∨ w.heap.size ≤ q := fun q hq => by rcases hfr36 q hq with h | h; exact hFr q h; exact .inr (by omega)
  have dis41 : ∀ q, F34 q → ¬ inA A q := fun q h1 h2 => by rcases hfr36 q h1 with h | h; exact (fun q h1 h2 => hHF q (hAo q h2).1 h1) q h h2; (have h4 := hAlt q h2; omega)
  have dis42 : ∀ q, F34 q → ¬ H q := fun q h1 h2 => by rcases hfr36 q h1 with h | h; exact (fun q h1 h2 => hHF q h2 h1) q h h2; (have h4 := hHlt q h2; omega)
  have dis43 : ∀ q, F34 q → ¬ G q := fun q h1 h2 => by rcases hfr36 q h1 with h | h; exact hFG q h h2; (have h4 := hGlt q h2; omega)
  rw [closeS0] at ho35
  refine Os 5 [(0, pt r), (1, pt l), (2, pt v), (3, nt who), (4, nt of), (6, nt after), (7, nt now), (13, pt b1), (20, nt ((rs.length : Nat) : Int)), (71, .bool (!(decide (closeE s ((rs.length : Nat) : Int) 0 = 4))))] ?_
  refine Oe ?_
  refine V_not (closeE s ((rs.length : Nat) : Int) 0 = 4) (by kernel_rfl) (fun hc44 => ?_) (fun hc44 => ?_)
  ·
   refine Vr ?_
   refine Os 2 [(16, nt 0), (17, nt 5)] ?_
   refine Oe ?_
   refine V_ret ?_
   refine X_ret_then ?_
   have hE45 : subE xs cs s ts rs who of after = 5 := by
     rw [subEx (who := who) (of := of) (after := after) (ts := ts) (by simpa using hg13) (by omega)]
     rw [if_neg (by omega)]
     exact if_pos (by cases h9 : (pollAt s rs.length).isSome; exact absurd (closeE4.2 h9) hc44; rfl)
   obtain ⟨h145, h245, h345⟩ := sub_no hE45 (by decide)
   exact X_return (.tuple #[nt 0, nt 5]) rfl ⟨by rw [hE45]; rfl, ⟨H, F34, G, (by rw [h345]; exact hR), (by rw [h245]; exact ho35), (by rw [h145]; exact hl), hHr, rel40, hGr, (fun q h1 h2 => dis42 q h2 h1), hHG, dis43⟩, hK0⟩
  refine V_skip ?_
  refine X_then ?_
  refine V_seq ?_
  refine Vr ?_
  refine Os 2 [(0, pt r), (2, pt v), (3, nt who), (4, nt of), (6, nt after), (7, nt now), (13, pt b1), (20, nt ((rs.length : Nat) : Int)), (72, pt l), (73, nt who)] ?_
  refine Ok { callee := (Callee.value (Operand.func 43)), args := #[(Operand.tmp 72), (Operand.tmp 73), (Operand.const (Value.int IntKind.i64 10))], argTypes := #[32, 3, 3] } 43 #[pt l, nt who, nt 10] (some 74) (reserve_spec G l xs cs who 10 _ hl) ?_
  rintro _ w48 ⟨rfl, ⟨F50, ho51, hfr52⟩, hk49⟩
  refine ⟨_, rfl, ?_⟩
  have hsz53 := Keep.size hk49
  replace hr := hr.keep hk49 (fun hs => by have h1 := hlr _ hs; have h2 := hGlt _ hs; omega)
  replace hb1 := hb1.keep hk49 (fun hs => by have h1 := hlr _ hs; have h2 := hGlt _ hs; omega)
  replace hb6_11 := hb6_11.keep hk49 (fun hs => by have h1 := hlr _ hs; have h2 := hGlt _ hs; omega)
  replace hA := SlT.keep hA hk49 (fun q hq hs => (fun q h1 h2 => hHG q (hAo q h2).1 h1) q hs hq)
  replace hR := Rfr.keep hR hk49 (fun q hq hs => (fun q h1 h2 => hHG q h2 h1) q hs hq)
  replace hK0 := Keep.fresh hK0 hk49 (fun i hi hs => by rcases hGr i hs with h | h; exact .inr <| .inr <| h; (exfalso; omega))
  replace ho35 := VotT.keep ho35 hk49 (fun q hq hs => (fun q h1 h2 => dis43 q h2 h1) q hs hq)
  have own55 : ∀ q, F50 q → q ≠ r ∧ q ≠ r ∧ q ≠ b1 ∧ q ≠ b6 := fun q hq => by rcases hfr52 q hq with h | h; (have h1 := hlr q h; have h2 := hGlt q h; omega); omega
  have lt54 := Led.lt ho51
  have rel56 : ∀ q, F50 q → G q ∨ w.heap.size ≤ q := fun q hq => by rcases hfr52 q hq with h | h; exact hGr q h; exact .inr (by omega)
  have dis57 : ∀ q, F50 q → ¬ inA A q := fun q h1 h2 => by rcases hfr52 q h1 with h | h; exact (fun q h1 h2 => hHG q (hAo q h2).1 h1) q h h2; (have h4 := hAlt q h2; omega)
  have dis58 : ∀ q, F50 q → ¬ H q := fun q h1 h2 => by rcases hfr52 q h1 with h | h; exact (fun q h1 h2 => hHG q h2 h1) q h h2; (have h4 := hHlt q h2; omega)
  have dis59 : ∀ q, F50 q → ¬ F34 q := fun q h1 h2 => by rcases hfr52 q h1 with h | h; exact (fun q h1 h2 => dis43 q h2 h1) q h h2; (have h4 := lt38 q h2; omega)
  refine Os 4 [(0, pt r), (2, pt v), (3, nt who), (4, nt of), (6, nt after), (7, nt now), (13, pt b1), (20, nt ((rs.length : Nat) : Int)), (21, nt (spendsE xs cs who 10))] ?_
  refine Oer ?_
  refine Os 2 [(0, pt r), (2, pt v), (3, nt who), (4, nt of), (6, nt after), (7, nt now), (13, pt b1), (20, nt ((rs.length : Nat) : Int)), (21, nt (spendsE xs cs who 10)), (76, .bool (!(decide (spendsE xs cs who 10 = 0))))] ?_
  refine Oe ?_
  refine V_not (spendsE xs cs who 10 = 0) (by kernel_rfl) (fun hc60 => ?_) (fun hc60 => ?_)
  ·
   refine Vr ?_
   refine Os 3 [(16, nt 0), (17, nt (spendsE xs cs who 10))] ?_
   refine Oe ?_
   refine V_ret ?_
   refine X_ret_then ?_
   have hE61 : subE xs cs s ts rs who of after = (spendsE xs cs who 10) := by
     rw [subEx (who := who) (of := of) (after := after) (ts := ts) (by simpa using hg13) (by omega)]
     rw [if_neg (by omega)]
     rw [if_neg (by rw [closeE4.1 hc44]; decide)]
   obtain ⟨h161, h261, h361⟩ := sub_no hE61 (hc60)
   exact X_return (.tuple #[nt 0, nt (spendsE xs cs who 10)]) rfl ⟨by rw [hE61]; rw [if_neg (hc60)], ⟨H, F34, F50, (by rw [h361]; exact hR), (by rw [h261]; exact ho35), (by rw [show subX xs cs s ts rs who of after = resX xs cs who 10 from h161.trans (by unfold resX; rw [if_neg (hc60)])]; exact ho51), hHr, rel40, rel56, (fun q h1 h2 => dis42 q h2 h1), (fun q h1 h2 => dis58 q h2 h1), (fun q h1 h2 => dis59 q h2 h1)⟩, hK0⟩
  refine V_skip ?_
  refine X_then ?_
  refine Vr ?_
  refine Os 3 [(0, pt r), (3, nt who), (4, nt of), (6, nt after), (7, nt now), (13, pt b1), (20, nt ((rs.length : Nat) : Int)), (78, pt v), (79, nt ((rs.length : Nat) : Int)), (80, nt of)] ?_
  refine Ok { callee := (Callee.value (Operand.func 44)), args := #[(Operand.tmp 78), (Operand.tmp 79), (Operand.tmp 80)], argTypes := #[33, 3, 3] } 44 #[pt v, nt ((rs.length : Nat) : Int), nt of] (some 81) (open_specT F34 v s ((rs.length : Nat) : Int) of _ ho35) ?_
  rintro _ w64 ⟨rfl, ⟨F66, ho67, hfr68⟩, hk65⟩
  refine ⟨_, rfl, ?_⟩
  have hsz69 := Keep.size hk65
  replace hr := hr.keep hk65 (fun hs => by have h1 := own39 _ hs; have h2 := lt38 _ hs; omega)
  replace hb1 := hb1.keep hk65 (fun hs => by have h1 := own39 _ hs; have h2 := lt38 _ hs; omega)
  replace hb6_11 := hb6_11.keep hk65 (fun hs => by have h1 := own39 _ hs; have h2 := lt38 _ hs; omega)
  replace hA := SlT.keep hA hk65 (fun q hq hs => dis41 q hs hq)
  replace hR := Rfr.keep hR hk65 (fun q hq hs => dis42 q hs hq)
  replace hK0 := Keep.fresh hK0 hk65 (fun i hi hs => by rcases rel40 i hs with h | h; exact .inr <| .inl h; (exfalso; omega))
  replace ho51 := Led.keep ho51 hk65 (fun q hq hs => (fun q h1 h2 => dis59 q h2 h1) q hs hq)
  have own71 : ∀ q, F66 q → q ≠ r ∧ q ≠ r ∧ q ≠ b1 ∧ q ≠ b6 := fun q hq => by rcases hfr68 q hq with h | h; (have h1 := own39 q h; have h2 := lt38 q h; omega); omega
  have lt70 := VotT.lt ho67
  have rel72 : ∀ q, F66 q → F q ∨ w.heap.size ≤ q := fun q hq => by rcases hfr68 q hq with h | h; exact rel40 q h; exact .inr (by omega)
  have dis73 : ∀ q, F66 q → ¬ inA A q := fun q h1 h2 => by rcases hfr68 q h1 with h | h; exact dis41 q h h2; (have h4 := hAlt q h2; omega)
  have dis74 : ∀ q, F66 q → ¬ H q := fun q h1 h2 => by rcases hfr68 q h1 with h | h; exact dis42 q h h2; (have h4 := hHlt q h2; omega)
  have dis75 : ∀ q, F66 q → ¬ F50 q := fun q h1 h2 => by rcases hfr68 q h1 with h | h; exact (fun q h1 h2 => dis59 q h2 h1) q h h2; (have h4 := lt54 q h2; omega)
  refine Oe ?_
  refine V_seq ?_
  refine V_draws (acts [11]) (fun q => q = g) [[0, 1, 2, 3, 4, 5, 6, 7, 8, 9, 10, 11]] (by kernel_rfl) (by repeat first | exact sure_body (by rintro _ _ ⟨h, _⟩; exact ⟨_, h⟩) | refine sure_then ?_ | refine sure_block ?_ | refine sure_join ?_) (by kernel_rfl) ?_
  intro w77 hk76 he78 L hL79
  have hsz80 := Keep.size hk76
  replace hr := hr.keep hk76 (fun f => f)
  replace hb1 := hb1.keep hk76 (fun f => f)
  replace hb6_11 := hb6_11.keep hk76 (fun f => f)
  replace hA := SlT.keep0 hA hk76
  replace hR := Rfr.keep hR hk76 (fun _ _ f => f)
  replace hK0 := Keep.tr hK0 (Keep.ofNone hk76)
  replace ho51 := Led.keep ho51 hk76 (fun _ _ f => f)
  replace ho67 := VotT.keep ho67 hk76 (fun _ _ f => f)
  have qhr := hr
  have qhb1 := hb1
  have qhb6_11 := hb6_11
  have K81 : Keep (fun q => q = g) w77 w77 := Keep.refl _ _
  obtain rfl := List.mem_singleton.1 hL79
  refine Gs [3, 4, 5, 6, 7, 8, 9, 10, 11] [(3, nt who), (4, nt of), (6, nt after), (7, nt now), (13, pt b1), (20, nt ((rs.length : Nat) : Int)), (84, .pointer (some ⟨r, 1, none⟩))] ?_
  refine Gc 95 (.tmp 84) 1 (pt g) (some 85) qhr (by show ¬ (r = g); omega) rfl ?_
  refine Gs [6, 7, 8, 9, 10, 11] [(3, nt who), (6, nt after), (7, nt now), (13, pt b1), (20, nt ((rs.length : Nat) : Int)), (85, pt g), (86, nt ((rs.length : Nat) : Int)), (87, nt of)] ?_
  refine Ga 42 (.tmp 13) 0 (hshc sum) (some 88) 32 qhb1 (by show ¬ (b1 = g); omega) (take_all (hshc_len _)) (hshc_len _) ?_
  refine Gs [11] [(20, nt ((rs.length : Nat) : Int)), (85, pt g), (86, nt ((rs.length : Nat) : Int)), (92, .agg (Rfm.cells (newR of sum after now who)).toArray)] ?_
  refine GI_final 11 (by kernel_rfl) (by kernel_rfl) ?_
  refine Ok { callee := (Callee.value (Operand.func 45)), args := #[(Operand.tmp 85), (Operand.const (Value.int IntKind.i64 0)), (Operand.tmp 86), (Operand.tmp 92)], argTypes := #[95, 3, 3, 57] } 45 #[pt g, nt 0, nt ((rs.length : Nat) : Int), .agg (Rfm.cells (newR of sum after now who)).toArray] (some 93) (rnew_spec H r g ts rs (newR of sum after now who) _ hR (by omega) (show 0 ≤ of ∧ of < (ts.length : Int) from trk_some (by simpa using hg13))) ?_
  rintro _ w84 ⟨rfl, ⟨H86, hR87, hfr88⟩, hk85⟩
  refine ⟨_, rfl, ?_⟩
  have hsz89 := Keep.size hk85
  replace hr := hr.keep hk85 (fun hs => by have h1 := hgo _ hs; have h2 := hgl _ hs; omega)
  replace hb1 := hb1.keep hk85 (fun hs => by have h1 := hgo _ hs; have h2 := hgl _ hs; omega)
  replace hb6_11 := hb6_11.keep hk85 (fun hs => by have h1 := hgo _ hs; have h2 := hgl _ hs; omega)
  replace hA := SlT.keep hA hk85 (fun q hq hs => (fun q h1 h2 => (hAo q h2).2.2 h1) q hs hq)
  replace hK0 := Keep.fresh hK0 hk85 (by intro i hi hs; first | exact hs | (exfalso; have h1 := hgo i hs; have h2 := hgl i hs; omega) | (have h1 := hgo i hs; have h2 := hgl i hs; show _ ∨ _; omega))
  replace ho51 := Led.keep ho51 hk85 (fun q hq hs => (fun q h1 h2 => (fun q h1 h2 => dis58 q h2 h1) q (by rw [show q = g from h1]; exact hgH) h2) q hs hq)
  replace ho67 := VotT.keep ho67 hk85 (fun q hq hs => (fun q h1 h2 => (fun q h1 h2 => dis74 q h2 h1) q (by rw [show q = g from h1]; exact hgH) h2) q hs hq)
  have own91 : ∀ q, H86 q → 0 ≤ q ∧ q ≠ b1 ∧ q ≠ b6 := fun q hq => by rcases hfr88 q hq with h | h; (have h1 := hHo q h; have h2 := hHlt q h; omega); omega
  have lt90 := Rfr.lt hR87
  have rel92 : ∀ q, H86 q → H q ∨ w.heap.size ≤ q := fun q hq => by rcases hfr88 q hq with h | h; exact hHr q h; exact .inr (by omega)
  have dis93 : ∀ q, H86 q → ¬ F50 q := fun q h1 h2 => by rcases hfr88 q h1 with h | h; exact (fun q h1 h2 => dis58 q h2 h1) q h h2; (have h4 := lt54 q h2; omega)
  have dis94 : ∀ q, H86 q → ¬ F66 q := fun q h1 h2 => by rcases hfr88 q h1 with h | h; exact (fun q h1 h2 => dis74 q h2 h1) q h h2; (have h4 := lt70 q h2; omega)
  refine Oer ?_
  refine Os 3 [(16, nt ((rs.length : Nat) : Int)), (17, nt 0)] ?_
  refine Oe ?_
  refine V_ret ?_
  have hE95 : subE xs cs s ts rs who of after = 0 := by
    rw [subEx (who := who) (of := of) (after := after) (ts := ts) (by simpa using hg13) (by omega)]
    rw [if_neg (by omega)]
    rw [if_neg (by rw [closeE4.1 hc44]; decide)]
    exact hc60
  obtain ⟨h195, h295, h395⟩ := sub_go hE95
  exact X_return (.tuple #[nt ((rs.length : Nat) : Int), nt 0]) rfl ⟨by rw [hE95]; rfl, ⟨H86, F66, F50, (by rw [h395]; exact hR87), (by rw [h295]; exact ho67), (by rw [h195]; exact ho51), rel92, rel72, rel56, dis94, dis93, dis75⟩, hK0⟩
 refine OI_eq [(0, pt r), (1, pt l), (2, pt v), (3, nt who), (4, nt of), (6, nt after), (7, nt now), (13, pt b1), (31, .bool true)] (by first | rfl | rw [hg13]) ?_
 refine Os 27 [(0, pt r), (1, pt l), (2, pt v), (3, nt who), (4, nt of), (6, nt after), (7, nt now), (13, pt b1), (28, .bool true)] ?_
 refine Oe ?_
 refine V_true rfl ?_
 refine Vr ?_
 refine Os 2 [(16, nt 0), (17, nt 1)] ?_
 refine Oe ?_
 refine V_ret ?_
 refine X_ret_block ?_
 refine X_ret_then ?_
 have hE96 : subE xs cs s ts rs who of after = 1 := subE1 (.inl (by simpa using hg13))
 obtain ⟨h196, h296, h396⟩ := sub_no hE96 (by decide)
 exact X_return (.tuple #[nt 0, nt 1]) rfl ⟨by rw [hE96]; rfl, ⟨H, F, G, (by rw [h396]; exact hR), (by rw [h296]; exact hV), (by rw [h196]; exact hl), hHr, hFr, hGr, hHF, hHG, hFG⟩, hK0⟩
end Go.Al


namespace Go.Al
open Go Go.RowKit Go.Proofs
section
variable {xs : List Acc} {cs : List Ci} {s : VS} {ts : List Trk} {rs : List Rfm} {who of after ref now : Int}
theorem getR_at (h : (getR rs ref).isSome = true) : getR rs ref = some (getA rs ref) := by
  unfold getA
  cases hx : getR rs ref with
  | none => rw [hx] at h; cases h
  | some x => rfl
theorem getA_at (hin : RfIn ts rs) (h : getR rs ref = some (getA rs ref)) : (0 ≤ ref ∧ ref < rs.length) ∧ (0 ≤ (getA rs ref).track ∧ (getA rs ref).track < ts.length) ∧ rs[ref.toNat]? = some (getA rs ref) := by
  obtain ⟨h1, h2, h3, _⟩ := getA_in hin h
  exact ⟨h1, h2, h3⟩
theorem depE_at (h : getR rs ref = some (getA rs ref)) : depE xs cs ts rs who ref = if (getA rs ref).state ≠ 1 then 9 else if (getA rs ref).backer ≠ -1 then 5 else spendsE xs cs who (trkA ts (getA rs ref).track).deposit := by unfold depE; rw [h]
theorem dep_no {k : Int} (h : depE xs cs ts rs who ref = k) (hk : k ≠ 0) : depX xs cs ts rs who ref = xs ∧ depR xs cs ts rs who ref = rs := by
  constructor
  · unfold depX; rw [h, if_neg hk]
  · unfold depR; rw [h, if_neg hk]
theorem dep_go (h : depE xs cs ts rs who ref = 0) : depX xs cs ts rs who ref = resX xs cs who (trkA ts (getA rs ref).track).deposit ∧ depR xs cs ts rs who ref = rs.set ref.toNat { getA rs ref with backer := who } := by
  constructor
  · unfold depX; rw [if_pos h]
  · unfold depR; rw [if_pos h]
end

set_option maxRecDepth 10000 in
set_option maxHeartbeats 1000000 in
theorem deposit_no (H : Nat → Prop) (r g : Nat) (ts : List Trk) (rs : List Rfm) (G : Nat → Prop) (l : Nat) (xs : List Acc) (cs : List Ci) (who ref : Int) (w : World) (hR : Rfr H w r g ts rs) (hl : Led G w l xs cs) (hHG : ∀ q, H q → ¬ G q) (hx : getR rs ref = none) : Calls Tryz.prog 21 #[.pointer (some ⟨r, 0, none⟩), .pointer (some ⟨l, 0, none⟩), .int .i64 who, .int .i64 ref] w fun e w' => e = .returned (.int .i64 (depE xs cs ts rs who ref)) ∧ (∃ H' G', Rfr H' w' r g ts (depR xs cs ts rs who ref) ∧ Led G' w' l (depX xs cs ts rs who ref) cs ∧ (∀ q, H' q → H q ∨ w.heap.size ≤ q) ∧ (∀ q, G' q → G q ∨ w.heap.size ≤ q) ∧ (∀ q, H' q → ¬ G' q)) ∧ Keep (fun q => q = g ∨ G q) w w' := by
 have hHlt := Rfr.lt hR
 have hrH := Rfr.at_ hR
 have hgH := Rfr.atg hR
 have hrlt := hHlt _ hrH
 have hglt := hHlt _ hgH
 have hin := Rfr.inn hR
 obtain ⟨A, cap, hr, hA, hAo, hrg⟩ := Rfr.parts hR
 have hAlt := SlT.lt hA
 have hAr : ∀ q, inA A q → q ≠ r ∧ q ≠ g ∧ q < w.heap.size := fun q hq => ⟨(hAo q hq).2.1, (hAo q hq).2.2, hAlt q hq⟩
 have hgo : ∀ q, only g q → q ≠ r ∧ q = g := fun q hq => ⟨fun e => hrg (e.symm.trans hq), hq⟩
 have hgl : ∀ q, only g q → q < w.heap.size := fun q hq => by rw [show q = g from hq]; exact hglt
 have hHo : ∀ q, H q → 0 ≤ q := fun q _ => Nat.zero_le q
 have htl := hin.tl
 have hrl := hin.rl
 have hGlt := Led.lt hl
 have hllt := hGlt _ (Led.at_ hl)
 have hlr : ∀ q, G q → q ≠ r := fun q hq e => hHG r hrH (e ▸ hq)
 have hinv := Led.inv hl
 have hHr : ∀ q, H q → H q ∨ w.heap.size ≤ q := fun _ h => .inl h
 have hGr : ∀ q, G q → G q ∨ w.heap.size ≤ q := fun _ h => .inl h
 have hK0 : Keep (fun q => q = g ∨ G q) w w := Keep.refl _ _
 have hzhK0 := Keep.size hK0
 refine enterV Tryz.func21 rfl [pt r, pt l, nt who, nt ref] 59 rfl rfl rfl ?_
 refine V_pick [(0, pt r), (1, pt l), (2, nt who), (3, nt ref)] rfl ?_
 refine Vr ?_
 refine Os 1 [(0, pt r), (1, pt l), (2, nt who), (3, nt ref)] ?_
 refine Oe ?_
 refine V_seq ?_
 refine Vr ?_
 refine Os 6 [(0, pt r), (1, pt l), (2, nt who), (3, nt ref), (17, .bool false)] ?_
 refine Oe ?_
 refine V_false rfl ?_
 refine V_skip ?_
 refine X_then ?_
 refine Vr ?_
 refine Os 2 [(0, pt r), (1, pt l), (2, nt who), (3, nt ref), (19, pt r), (20, nt ref)] ?_
 refine Ok { callee := (Callee.value (Operand.func 23)), args := #[(Operand.tmp 19), (Operand.tmp 20)], argTypes := #[34, 3] } 23 #[pt r, nt ref] (some 21) (rget_spec H r g ts rs ref _ hR) ?_
 rintro _ w1 ⟨rfl, hk2⟩
 refine ⟨_, rfl, ?_⟩
 have hsz3 := Keep.size hk2
 replace hr := hr.keep hk2 (fun f => f)
 replace hA := SlT.keep0 hA hk2
 replace hR := Rfr.keep hR hk2 (fun _ _ f => f)
 replace hl := Led.keep hl hk2 (fun _ _ f => f)
 replace hK0 := Keep.tr hK0 (Keep.ofNone hk2)
 refine Os 6 [(0, pt r), (1, pt l), (2, nt who), (3, nt ref), (22, .agg (Rfm.cells (getA rs ref)).toArray), (23, .bool ((getR rs ref).isSome))] ?_
 refine OI_alloc 57 (.agg (Rfm.cells Rfm.zero).toArray) (Rfm.cells Rfm.zero) (some 9) (by kernel_rfl) (by kernel_rfl) (by kernel_rfl) ?_
 intro b4 w4 e4 hb4 k4 z4
 have hsz5 := Keep.size k4
 replace hr := hr.keep k4 (fun f => f)
 replace hA := SlT.keep0 hA k4
 replace hR := Rfr.keep hR k4 (fun _ _ f => f)
 replace hl := Led.keep hl k4 (fun _ _ f => f)
 replace hK0 := Keep.tr hK0 (Keep.ofNone k4)
 have hb4lt := hb4.lt
 refine OI_set (m := 45) (kd := true) 57 (.tmp 9) (.tmp 22) 0 (.agg (Rfm.cells (getA rs ref)).toArray) (Rfm.cells (getA rs ref)) none (by kernel_rfl) (by kernel_rfl) (by kernel_rfl) hb4 (by kernel_rfl) rfl (Rfm.len _) (Nat.le_of_ble_eq_true (by kernel_rfl)) (Rfm.one _) ?_
 intro w6 hb4_9 hk7 hz8
 replace hb4_9 : Blk w6 b4 (Rfm.cells (getA rs ref)) 57 := (Blk.eqL (Rfm.over _ _) hb4_9)
 have hsz10 := Keep.size hk7
 replace hr := hr.keep hk7 (by show ¬ (_ = _); omega)
 replace hA := SlT.keep hA hk7 (fun q hq hs => by have hs : q = b4 := hs; have g0 := hAr q hq; have g1 := hAlt q hq; omega)
 replace hR := Rfr.keep hR hk7 (fun q hq hs => by have hs : q = b4 := hs; have g0 := hHo q hq; have g1 := hHlt q hq; omega)
 replace hl := Led.keep hl hk7 (fun q hq hs => by have hs : q = b4 := hs; have g0 := hlr q hq; have g1 := hGlt q hq; omega)
 replace hK0 := Keep.fresh hK0 hk7 (by intro i hi hs; first | exact hs | exact Or.inl hs | exact Or.inr hs | (exfalso; have hs2 : i = b4 := hs; omega))
 refine Os 9 [(0, pt r), (1, pt l), (2, nt who), (3, nt ref), (9, pt b4), (10, .bool ((getR rs ref).isSome))] ?_
 refine Oe ?_
 refine V_seq ?_
 refine V_block ?_
 refine Vr ?_
 refine Os 3 [(0, pt r), (1, pt l), (2, nt who), (3, nt ref), (9, pt b4), (24, .bool (!((getR rs ref).isSome)))] ?_
 refine Oe ?_
 refine V_eq [(0, pt r), (1, pt l), (2, nt who), (3, nt ref), (9, pt b4), (24, .bool true)] (by rw [hx]; rfl) ?_
 refine V_true rfl ?_
 refine Vr ?_
 refine Os 1 [(8, nt 4)] ?_
 refine Oe ?_
 refine V_ret ?_
 refine X_ret_block ?_
 refine X_ret_then ?_
 have hE12 : depE xs cs ts rs who ref = 4 := by unfold depE; rw [hx]
 obtain ⟨h112, h212⟩ := dep_no (xs := xs) hE12 (by decide)
 exact X_return (nt 4) rfl ⟨by rw [hE12], ⟨H, G, (by rw [h212]; exact hR), (by rw [h112]; exact hl), hHr, hGr, hHG⟩, hK0⟩

set_option maxRecDepth 10000 in
set_option maxHeartbeats 1000000 in
theorem deposit_at (H : Nat → Prop) (r g : Nat) (ts : List Trk) (rs : List Rfm) (G : Nat → Prop) (l : Nat) (xs : List Acc) (cs : List Ci) (who ref : Int) (w : World) (hR : Rfr H w r g ts rs) (hl : Led G w l xs cs) (hHG : ∀ q, H q → ¬ G q) (hx : getR rs ref = some (getA rs ref)) : Calls Tryz.prog 21 #[.pointer (some ⟨r, 0, none⟩), .pointer (some ⟨l, 0, none⟩), .int .i64 who, .int .i64 ref] w fun e w' => e = .returned (.int .i64 (depE xs cs ts rs who ref)) ∧ (∃ H' G', Rfr H' w' r g ts (depR xs cs ts rs who ref) ∧ Led G' w' l (depX xs cs ts rs who ref) cs ∧ (∀ q, H' q → H q ∨ w.heap.size ≤ q) ∧ (∀ q, G' q → G q ∨ w.heap.size ≤ q) ∧ (∀ q, H' q → ¬ G' q)) ∧ Keep (fun q => q = g ∨ G q) w w' := by
 have hHlt := Rfr.lt hR
 have hrH := Rfr.at_ hR
 have hgH := Rfr.atg hR
 have hrlt := hHlt _ hrH
 have hglt := hHlt _ hgH
 have hin := Rfr.inn hR
 obtain ⟨A, cap, hr, hA, hAo, hrg⟩ := Rfr.parts hR
 have hAlt := SlT.lt hA
 have hAr : ∀ q, inA A q → q ≠ r ∧ q ≠ g ∧ q < w.heap.size := fun q hq => ⟨(hAo q hq).2.1, (hAo q hq).2.2, hAlt q hq⟩
 have hgo : ∀ q, only g q → q ≠ r ∧ q = g := fun q hq => ⟨fun e => hrg (e.symm.trans hq), hq⟩
 have hgl : ∀ q, only g q → q < w.heap.size := fun q hq => by rw [show q = g from hq]; exact hglt
 have hHo : ∀ q, H q → 0 ≤ q := fun q _ => Nat.zero_le q
 have htl := hin.tl
 have hrl := hin.rl
 have hGlt := Led.lt hl
 have hllt := hGlt _ (Led.at_ hl)
 have hlr : ∀ q, G q → q ≠ r := fun q hq e => hHG r hrH (e ▸ hq)
 have hinv := Led.inv hl
 have hHr : ∀ q, H q → H q ∨ w.heap.size ≤ q := fun _ h => .inl h
 have hGr : ∀ q, G q → G q ∨ w.heap.size ≤ q := fun _ h => .inl h
 obtain ⟨href, htr, hrat⟩ := getA_at hin hx
 obtain ⟨jt, hjt, hjl, htk, htm⟩ := trkA_at htr
 have hokt := hin.tok _ htm
 have hdep : 0 ≤ (trkA ts (getA rs ref).track).deposit ∧ (trkA ts (getA rs ref).track).deposit ≤ 1073741824 := hokt.2.1
 have hK0 : Keep (fun q => q = g ∨ G q) w w := Keep.refl _ _
 have hzhK0 := Keep.size hK0
 refine enterV Tryz.func21 rfl [pt r, pt l, nt who, nt ref] 59 rfl rfl rfl ?_
 refine V_pick [(0, pt r), (1, pt l), (2, nt who), (3, nt ref)] rfl ?_
 refine Vr ?_
 refine Os 1 [(0, pt r), (1, pt l), (2, nt who), (3, nt ref)] ?_
 refine Oe ?_
 refine V_seq ?_
 refine Vr ?_
 refine Os 6 [(0, pt r), (1, pt l), (2, nt who), (3, nt ref), (17, .bool false)] ?_
 refine Oe ?_
 refine V_false rfl ?_
 refine V_skip ?_
 refine X_then ?_
 refine Vr ?_
 refine Os 2 [(0, pt r), (1, pt l), (2, nt who), (3, nt ref), (19, pt r), (20, nt ref)] ?_
 refine Ok { callee := (Callee.value (Operand.func 23)), args := #[(Operand.tmp 19), (Operand.tmp 20)], argTypes := #[34, 3] } 23 #[pt r, nt ref] (some 21) (rget_spec H r g ts rs ref _ hR) ?_
 rintro _ w1 ⟨rfl, hk2⟩
 refine ⟨_, rfl, ?_⟩
 have hsz3 := Keep.size hk2
 replace hr := hr.keep hk2 (fun f => f)
 replace hA := SlT.keep0 hA hk2
 replace hR := Rfr.keep hR hk2 (fun _ _ f => f)
 replace hl := Led.keep hl hk2 (fun _ _ f => f)
 replace hK0 := Keep.tr hK0 (Keep.ofNone hk2)
 refine Os 6 [(0, pt r), (1, pt l), (2, nt who), (3, nt ref), (22, .agg (Rfm.cells (getA rs ref)).toArray), (23, .bool ((getR rs ref).isSome))] ?_
 refine OI_alloc 57 (.agg (Rfm.cells Rfm.zero).toArray) (Rfm.cells Rfm.zero) (some 9) (by kernel_rfl) (by kernel_rfl) (by kernel_rfl) ?_
 intro b4 w4 e4 hb4 k4 z4
 have hsz5 := Keep.size k4
 replace hr := hr.keep k4 (fun f => f)
 replace hA := SlT.keep0 hA k4
 replace hR := Rfr.keep hR k4 (fun _ _ f => f)
 replace hl := Led.keep hl k4 (fun _ _ f => f)
 replace hK0 := Keep.tr hK0 (Keep.ofNone k4)
 have hb4lt := hb4.lt
 refine OI_set (m := 45) (kd := true) 57 (.tmp 9) (.tmp 22) 0 (.agg (Rfm.cells (getA rs ref)).toArray) (Rfm.cells (getA rs ref)) none (by kernel_rfl) (by kernel_rfl) (by kernel_rfl) hb4 (by kernel_rfl) rfl (Rfm.len _) (Nat.le_of_ble_eq_true (by kernel_rfl)) (Rfm.one _) ?_
 intro w6 hb4_9 hk7 hz8
 replace hb4_9 : Blk w6 b4 (Rfm.cells (getA rs ref)) 57 := (Blk.eqL (Rfm.over _ _) hb4_9)
 have hsz10 := Keep.size hk7
 replace hr := hr.keep hk7 (by show ¬ (_ = _); omega)
 replace hA := SlT.keep hA hk7 (fun q hq hs => by have hs : q = b4 := hs; have g0 := hAr q hq; have g1 := hAlt q hq; omega)
 replace hR := Rfr.keep hR hk7 (fun q hq hs => by have hs : q = b4 := hs; have g0 := hHo q hq; have g1 := hHlt q hq; omega)
 replace hl := Led.keep hl hk7 (fun q hq hs => by have hs : q = b4 := hs; have g0 := hlr q hq; have g1 := hGlt q hq; omega)
 replace hK0 := Keep.fresh hK0 hk7 (by intro i hi hs; first | exact hs | exact Or.inl hs | exact Or.inr hs | (exfalso; have hs2 : i = b4 := hs; omega))
 refine Os 9 [(0, pt r), (1, pt l), (2, nt who), (3, nt ref), (9, pt b4), (10, .bool ((getR rs ref).isSome))] ?_
 refine Oe ?_
 refine V_seq ?_
 refine V_block ?_
 refine Vr ?_
 refine Os 3 [(0, pt r), (1, pt l), (2, nt who), (3, nt ref), (9, pt b4), (24, .bool (!((getR rs ref).isSome)))] ?_
 refine Oe ?_
 refine V_eq [(0, pt r), (1, pt l), (2, nt who), (3, nt ref), (9, pt b4), (24, .bool false)] (by rw [hx]; rfl) ?_
 refine V_false rfl ?_
 refine Vr ?_
 refine Os 1 [(0, pt r), (1, pt l), (2, nt who), (3, nt ref), (9, pt b4), (28, pt b4)] ?_
 refine Oc 3 (.tmp 28) 0 (nt ((getA rs ref).state)) (some 29) hb4_9 rfl ?_
 refine Os 4 [(0, pt r), (1, pt l), (2, nt who), (3, nt ref), (9, pt b4), (27, .bool (!(decide ((getA rs ref).state = 1))))] ?_
 refine Oe ?_
 refine V_not ((getA rs ref).state = 1) (by kernel_rfl) (fun hc12 => ?_) (fun hc12 => ?_)
 ·
  refine Vr ?_
  refine Os 1 [(8, nt 9)] ?_
  refine Oe ?_
  refine V_ret ?_
  refine X_ret_block ?_
  refine X_ret_then ?_
  have hE13 : depE xs cs ts rs who ref = 9 := by rw [depE_at hx, if_pos hc12]
  obtain ⟨h113, h213⟩ := dep_no (xs := xs) hE13 (by decide)
  exact X_return (nt 9) rfl ⟨by rw [hE13], ⟨H, G, (by rw [h213]; exact hR), (by rw [h113]; exact hl), hHr, hGr, hHG⟩, hK0⟩
 refine Vr ?_
 refine Os 1 [(0, pt r), (1, pt l), (2, nt who), (3, nt ref), (9, pt b4), (32, .pointer (some ⟨b4, 38, none⟩))] ?_
 refine Oc 3 (.tmp 32) 38 (nt ((getA rs ref).backer)) (some 33) hb4_9 rfl ?_
 refine Os 4 [(0, pt r), (1, pt l), (2, nt who), (3, nt ref), (9, pt b4), (31, .bool (!(decide ((getA rs ref).backer = -1))))] ?_
 refine Oe ?_
 refine V_not ((getA rs ref).backer = -1) (by kernel_rfl) (fun hc14 => ?_) (fun hc14 => ?_)
 ·
  refine Vr ?_
  refine Os 1 [(8, nt 5)] ?_
  refine Oe ?_
  refine V_ret ?_
  refine X_ret_block ?_
  refine X_ret_then ?_
  have hE15 : depE xs cs ts rs who ref = 5 := by rw [depE_at hx, if_neg (fun h => h hc12), if_pos hc14]
  obtain ⟨h115, h215⟩ := dep_no (xs := xs) hE15 (by decide)
  exact X_return (nt 5) rfl ⟨by rw [hE15], ⟨H, G, (by rw [h215]; exact hR), (by rw [h115]; exact hl), hHr, hGr, hHG⟩, hK0⟩
 refine V_skip ?_
 refine X_block ?_
 refine X_then ?_
 refine V_seq ?_
 refine V_seq ?_
 refine V_draws (acts [11]) none_ [[0, 1, 2, 3, 4, 5, 6, 7, 8, 9, 10, 11, 12]] (by kernel_rfl) (by repeat first | exact sure_body (by rintro _ _ ⟨h, _⟩; exact ⟨_, h⟩) | refine sure_then ?_ | refine sure_block ?_ | refine sure_join ?_) (by kernel_rfl) ?_
 intro w17 hk16 he18 L hL19
 have hsz20 := Keep.size hk16
 replace hr := hr.keep hk16 (fun f => f)
 replace hb4_9 := hb4_9.keep hk16 (fun f => f)
 replace hA := SlT.keep0 hA hk16
 replace hR := Rfr.keep hR hk16 (fun _ _ f => f)
 replace hl := Led.keep hl hk16 (fun _ _ f => f)
 replace hK0 := Keep.tr hK0 (Keep.ofNone hk16)
 have qhr := hr
 have qhb4_9 := hb4_9
 have K21 : Keep none_ w17 w17 := Keep.refl _ _
 obtain rfl := List.mem_singleton.1 hL19
 refine Gs [5, 6, 7, 8, 9, 10, 11, 12] [(0, pt r), (2, nt who), (3, nt ref), (9, pt b4), (35, pt l), (36, nt who), (39, pt r)] ?_
 refine Gc0 29 (.tmp 39) 0 (.slice A ts.length cap) (some 40) qhr rfl ?_
 refine Gs [7, 8, 9, 10, 11, 12] [(0, pt r), (2, nt who), (3, nt ref), (9, pt b4), (35, pt l), (36, nt who), (40, .slice A ts.length cap), (41, .pointer (some ⟨b4, 1, none⟩))] ?_
 refine Gc0 3 (.tmp 41) 1 (nt ((getA rs ref).track)) (some 42) qhb4_9 rfl ?_
 obtain ⟨b22, o22, L22, T22, rfl, hat22⟩ := SlT.open_ hA (by first | omega | (simp only [List.length_map]; omega) | (simp; done) | (simp; omega))
 have hb22lt := hat22.blk.lt
 have hob23 := hAr b22 ⟨_, rfl, rfl⟩
 have hob24 := hAlt b22 ⟨_, rfl, rfl⟩
 have hne25 : ∀ q, G q → q ≠ b22 := fun q hq hs => (fun q h1 h2 => hHG q (hAo q h2).1 h1) q hq ⟨_, rfl, hs⟩
 have own26 := fun q hq => And.intro (hlr q hq) (hne25 q hq)
 refine Gp_ [(0, pt r), (2, nt who), (3, nt ref), (9, pt b4), (35, pt l), (36, nt who), (40, .slice (some ⟨b22, o22, none⟩) ts.length cap), (42, nt ((getA rs ref).track))] ?_
 refine GI_eq [(0, pt r), (2, nt who), (3, nt ref), (9, pt b4), (35, pt l), (36, nt who), (40, .slice (some ⟨b22, o22, none⟩) ts.length cap), (42, nt ((jt : Nat) : Int))] (by rw [hjt]) ?_
 refine GI_pure (some 43) (.indexAddr 29 (.tmp 40) (.tmp 42)) (by kernel_rfl) (by kernel_rfl) (pure_idxN (b := b22) (o := o22) (len := ts.length) (cap := cap) (kd := .i64) (j := jt) (E := 27) (sz := 18) (by_ := 144) (by kernel_rfl) (by kernel_rfl) (by kernel_rfl) (by omega)) ?_
 refine Gs [10, 11, 12] [(0, pt r), (2, nt who), (3, nt ref), (9, pt b4), (35, pt l), (36, nt who), (44, .pointer (some ⟨b22, o22 + jt * 18 + 1, none⟩))] ?_
 refine Gc0 3 (.tmp 44) (o22 + jt * 18 + 1) (nt ((trkA ts (getA rs ref).track).deposit)) (some 45) hat22.blk (At.cell hat22 (es_at htk) rfl) ?_
 refine Gk0 { callee := (Callee.value (Operand.func 43)), args := #[(Operand.tmp 35), (Operand.tmp 36), (Operand.tmp 45)], argTypes := #[32, 3, 3] } 43 #[pt l, nt who, nt ((trkA ts (getA rs ref).track).deposit)] (some 46) (reserve_spec G l xs cs who ((trkA ts (getA rs ref).track).deposit) _ hl) ?_
 rintro _ w29 ⟨rfl, ⟨F31, ho32, hfr33⟩, hk30⟩
 refine ⟨_, rfl, ?_⟩
 have hsz34 := Keep.size hk30
 replace hr := hr.keep hk30 (fun hs => by have h1 := own26 _ hs; have h2 := hGlt _ hs; omega)
 replace hb4_9 := hb4_9.keep hk30 (fun hs => by have h1 := own26 _ hs; have h2 := hGlt _ hs; omega)
 replace hat22 := hat22.keep hk30 (fun hs => by have h1 := own26 _ hs; have h2 := hGlt _ hs; omega)
 replace hR := Rfr.keep hR hk30 (fun q hq hs => (fun q h1 h2 => hHG q h2 h1) q hs hq)
 replace hK0 := Keep.fresh hK0 hk30 (fun i hi hs => by rcases hGr i hs with h | h; exact .inr <| h; (exfalso; omega))
 have own36 : ∀ q, F31 q → q ≠ r ∧ q ≠ r ∧ q ≠ b4 := fun q hq => by rcases hfr33 q hq with h | h; (have h1 := own26 q h; have h2 := hGlt q h; omega); omega
 have lt35 := Led.lt ho32
 have rel37 : ∀ q, F31 q → G q ∨ w.heap.size ≤ q := fun q hq => by rcases hfr33 q hq with h | h; exact hGr q h; exact .inr (by omega)
 have dis38 : ∀ q, F31 q → ¬ H q := fun q h1 h2 => by rcases hfr33 q h1 with h | h; exact (fun q h1 h2 => hHG q h2 h1) q h h2; (have h4 := hHlt q h2; omega)
 refine Gs [] [(0, pt r), (2, nt who), (3, nt ref), (9, pt b4), (11, nt (spendsE xs cs who ((trkA ts (getA rs ref).track).deposit)))] ?_
 refine GI_end ?_
 refine X_then ?_
 refine Vr ?_
 refine Os 2 [(0, pt r), (2, nt who), (3, nt ref), (9, pt b4), (11, nt (spendsE xs cs who ((trkA ts (getA rs ref).track).deposit))), (48, .bool (!(decide (spendsE xs cs who ((trkA ts (getA rs ref).track).deposit) = 0))))] ?_
 refine Oe ?_
 refine V_not (spendsE xs cs who ((trkA ts (getA rs ref).track).deposit) = 0) (by kernel_rfl) (fun hc39 => ?_) (fun hc39 => ?_)
 ·
  refine Vr ?_
  refine Os 2 [(8, nt (spendsE xs cs who ((trkA ts (getA rs ref).track).deposit)))] ?_
  refine Oe ?_
  refine V_ret ?_
  refine X_ret_then ?_
  have hE40 : depE xs cs ts rs who ref = (spendsE xs cs who ((trkA ts (getA rs ref).track).deposit)) := by rw [depE_at hx, if_neg (fun h => h hc12), if_neg (fun h => h hc14)]
  obtain ⟨h140, h240⟩ := dep_no (xs := xs) hE40 (hc39)
  exact X_return (nt (spendsE xs cs who ((trkA ts (getA rs ref).track).deposit))) rfl ⟨by rw [hE40], ⟨H, F31, (by rw [h240]; exact hR), (by rw [show depX xs cs ts rs who ref = resX xs cs who (trkA ts (getA rs ref).track).deposit from h140.trans (by unfold resX; rw [if_neg (hc39)])]; exact ho32), hHr, rel37, (fun q h1 h2 => dis38 q h2 h1)⟩, hK0⟩
 refine V_skip ?_
 refine X_then ?_
 refine Vr ?_
 refine Os 2 [(0, pt r), (3, nt ref), (9, pt b4), (50, nt who), (51, .pointer (some ⟨b4, 38, none⟩))] ?_
 refine OI_set (m := 1) (kd := false) 3 (.tmp 51) (.tmp 50) 38 (nt who) [nt who] none (by kernel_rfl) (by kernel_rfl) (by kernel_rfl) hb4_9 (by kernel_rfl) (by kernel_rfl) (by kernel_rfl) (Nat.le_of_ble_eq_true (by kernel_rfl)) (by simp [Value.oneCell']) ?_
 intro w41 hb4_44 hk42 hz43
 replace hb4_44 : Blk w41 b4 (Rfm.cells { (getA rs ref) with backer := who }) 57 := (Blk.eqL (by kernel_rfl) hb4_44)
 have hsz45 := Keep.size hk42
 replace hr := hr.keep hk42 (by show ¬ (_ = _); omega)
 replace hat22 := hat22.keep hk42 (by show ¬ (_ = _); omega)
 replace hR := Rfr.keep hR hk42 (fun q hq hs => by have hs : q = b4 := hs; have g0 := hHo q hq; have g1 := hHlt q hq; omega)
 replace hK0 := Keep.fresh hK0 hk42 (by intro i hi hs; first | exact hs | exact Or.inl hs | exact Or.inr hs | (exfalso; have hs2 : i = b4 := hs; omega))
 replace ho32 := Led.keep ho32 hk42 (fun q hq hs => by have hs : q = b4 := hs; have g0 := own36 q hq; have g1 := lt35 q hq; omega)
 refine Oe ?_
 refine V_seq ?_
 refine V_draws (acts [6]) none_ [[0, 1, 2, 3, 4, 5, 6]] (by kernel_rfl) (by repeat first | exact sure_body (by rintro _ _ ⟨h, _⟩; exact ⟨_, h⟩) | refine sure_then ?_ | refine sure_block ?_ | refine sure_join ?_) (by kernel_rfl) ?_
 intro w47 hk46 he48 L hL49
 have hsz50 := Keep.size hk46
 replace hr := hr.keep hk46 (fun f => f)
 replace hb4_44 := hb4_44.keep hk46 (fun f => f)
 replace hat22 := hat22.keep hk46 (fun f => f)
 replace hR := Rfr.keep hR hk46 (fun _ _ f => f)
 replace hK0 := Keep.tr hK0 (Keep.ofNone hk46)
 replace ho32 := Led.keep ho32 hk46 (fun _ _ f => f)
 have qhr := hr
 have qhb4_44 := hb4_44
 have qhat22 := hat22
 have K51 : Keep none_ w47 w47 := Keep.refl _ _
 obtain rfl := List.mem_singleton.1 hL49
 refine Gs [3, 4, 5, 6] [(3, nt ref), (9, pt b4), (54, .pointer (some ⟨r, 1, none⟩))] ?_
 refine Gc0 95 (.tmp 54) 1 (pt g) (some 55) qhr rfl ?_
 refine Gs [5, 6] [(9, pt b4), (55, pt g), (56, nt ref)] ?_
 refine Ga 57 (.tmp 9) 0 (Rfm.cells { (getA rs ref) with backer := who }) (some 57) 45 qhb4_44 (fun f => f) (take_all (Rfm.len _)) (Rfm.len _) ?_
 refine GI_final 6 (by kernel_rfl) (by kernel_rfl) ?_
 refine Ok { callee := (Callee.value (Operand.func 45)), args := #[(Operand.tmp 55), (Operand.const (Value.int IntKind.i64 0)), (Operand.tmp 56), (Operand.tmp 57)], argTypes := #[95, 3, 3, 57] } 45 #[pt g, nt 0, nt ref, .agg (Rfm.cells { (getA rs ref) with backer := who }).toArray] (some 58) (rset_spec H r g ts rs ref ({ (getA rs ref) with backer := who }) _ hR href htr) ?_
 rintro _ w54 ⟨rfl, ⟨H56, hR57, hfr58⟩, hk55⟩
 refine ⟨_, rfl, ?_⟩
 have hsz59 := Keep.size hk55
 replace hr := hr.keep hk55 (fun hs => by have h1 := hgo _ hs; have h2 := hgl _ hs; omega)
 replace hb4_44 := hb4_44.keep hk55 (fun hs => by have h1 := hgo _ hs; have h2 := hgl _ hs; omega)
 replace hat22 := hat22.keep hk55 (fun hs => by have h1 := hgo _ hs; have h2 := hgl _ hs; omega)
 replace hK0 := Keep.fresh hK0 hk55 (by intro i hi hs; first | exact hs | (exfalso; have h1 := hgo i hs; have h2 := hgl i hs; omega) | (have h1 := hgo i hs; have h2 := hgl i hs; show _ ∨ _; omega))
 replace ho32 := Led.keep ho32 hk55 (fun q hq hs => (fun q h1 h2 => (fun q h1 h2 => dis38 q h2 h1) q (by rw [show q = g from h1]; exact hgH) h2) q hs hq)
 have own61 : ∀ q, H56 q → 0 ≤ q ∧ q ≠ b4 := fun q hq => by rcases hfr58 q hq with h | h; (have h1 := hHo q h; have h2 := hHlt q h; omega); omega
 have lt60 := Rfr.lt hR57
 have rel62 : ∀ q, H56 q → H q ∨ w.heap.size ≤ q := fun q hq => by rcases hfr58 q hq with h | h; exact hHr q h; exact .inr (by omega)
 have dis63 : ∀ q, H56 q → ¬ F31 q := fun q h1 h2 => by rcases hfr58 q h1 with h | h; exact (fun q h1 h2 => dis38 q h2 h1) q h h2; (have h4 := lt35 q h2; omega)
 refine Oer ?_
 refine Os 1 [(8, nt 0)] ?_
 refine Oe ?_
 refine V_ret ?_
 have hE64 : depE xs cs ts rs who ref = 0 := by rw [depE_at hx, if_neg (fun h => h hc12), if_neg (fun h => h hc14)]; exact hc39
 obtain ⟨h164, h264⟩ := dep_go hE64
 exact X_return (nt 0) rfl ⟨by rw [hE64], ⟨H56, F31, (by rw [h264]; exact hR57), (by rw [h164]; exact ho32), rel62, rel37, dis63⟩, hK0⟩

theorem deposit_spec (H : Nat → Prop) (r g : Nat) (ts : List Trk) (rs : List Rfm) (G : Nat → Prop) (l : Nat) (xs : List Acc) (cs : List Ci) (who ref : Int) (w : World) (hR : Rfr H w r g ts rs) (hl : Led G w l xs cs) (hHG : ∀ q, H q → ¬ G q) : Calls Tryz.prog 21 #[.pointer (some ⟨r, 0, none⟩), .pointer (some ⟨l, 0, none⟩), .int .i64 who, .int .i64 ref] w fun e w' => e = .returned (.int .i64 (depE xs cs ts rs who ref)) ∧ (∃ H' G', Rfr H' w' r g ts (depR xs cs ts rs who ref) ∧ Led G' w' l (depX xs cs ts rs who ref) cs ∧ (∀ q, H' q → H q ∨ w.heap.size ≤ q) ∧ (∀ q, G' q → G q ∨ w.heap.size ≤ q) ∧ (∀ q, H' q → ¬ G' q)) ∧ Keep (fun q => q = g ∨ G q) w w' := by
  cases hx : getR rs ref with
  | none => exact deposit_no H r g ts rs G l xs cs who ref w hR hl hHG hx
  | some x => exact deposit_at H r g ts rs G l xs cs who ref w hR hl hHG (getR_at (by rw [hx]; rfl))

end Go.Al


namespace Go.Al
open Go Go.RowKit Go.Proofs
theorem SlT.take {α : Type} {w : World} {sz cap : Nat} {f : α → List Value} {A : Option Addr} {xs : List α} (h : SlT w sz f A cap xs) (n : Nat) : SlT w sz f A cap (xs.take n) := by
  rcases h with ⟨h1, h2, h3⟩ | ⟨b, o, L, T, h1, h2, h3, h4, h5, h6⟩
  · refine .inl ⟨h1, h2, ?_⟩
    rw [List.map_take, h3, List.take_nil]
  · refine .inr ⟨b, o, L, T, h1, h2, ?_, h4, ?_, fun e he => h6 e ?_⟩
    · rw [List.length_map, List.length_take]; rw [List.length_map] at h3; omega
    · rw [List.map_take, ← flatten_take h6 n, ← h5, List.take_take, List.length_take]
      congr 1
      rcases Nat.le_total n (xs.map f).length with hn | hn
      · rw [Nat.min_eq_left hn, Nat.min_eq_left (Nat.mul_le_mul_right _ hn)]
      · rw [Nat.min_eq_right hn, Nat.min_eq_right (Nat.mul_le_mul_right _ hn)]
    · rw [List.map_take] at he; exact List.mem_of_mem_take he
section
variable {ts : List Trk} {rs : List Rfm} {now : Int} {s : VS}
theorem setN_len (rs : List Rfm) (ref : Int) : (setN now rs ref).length = rs.length := by unfold setN; rw [List.length_set]
theorem setsN_len : ∀ (l : List Int) (rs : List Rfm), (l.foldl (setN now) rs).length = rs.length
  | [], _ => rfl
  | x :: l, rs => by rw [List.foldl_cons, setsN_len l, setN_len]
theorem setsN_step {l : List Int} {i : Nat} {x : Int} (h : l[i]? = some x) : (l.take (i + 1)).foldl (setN now) rs = setN now ((l.take i).foldl (setN now) rs) x := by
  obtain ⟨h1, rfl⟩ := List.getElem?_eq_some_iff.1 h
  rw [List.take_succ_eq_append_getElem h1, List.foldl_append]; rfl
theorem begN (ts : List Trk) (rs : List Rfm) (j : Nat) (now : Int) : ∃ n : Nat, imin (((waitL ts (j : Int) now 0 rs).length : Nat) : Int) (imax ((trkA ts (j : Int)).most - decN (j : Int) rs) 0) = n ∧ n ≤ (waitL ts (j : Int) now 0 rs).length := by
  refine ⟨(imin (((waitL ts (j : Int) now 0 rs).length : Nat) : Int) (imax ((trkA ts (j : Int)).most - decN (j : Int) rs) 0)).toNat, ?_, ?_⟩ <;> unfold imin imax <;> split <;> split <;> omega
theorem getA_len {i : Int} (hr : 0 ≤ i ∧ i < rs.length) : getR rs i = some (getA rs i) := by
  refine getR_at ?_
  unfold getR
  rw [if_pos hr, List.getElem?_eq_getElem (by omega)]; rfl
end

set_option maxRecDepth 10000 in
set_option maxHeartbeats 2000000 in
theorem begins_spec (H : Nat → Prop) (r g : Nat) (ts : List Trk) (rs : List Rfm) (F : Nat → Prop) (v : Nat) (s : VS) (j : Nat) (now : Int) (w : World) (hR : Rfr H w r g ts rs) (hV : VotT F w v s) (hHF : ∀ q, H q → ¬ F q) (hj : j < ts.length) : Calls Tryz.prog 49 #[.pointer (some ⟨r, 0, none⟩), .pointer (some ⟨v, 0, none⟩), .int .i64 (j : Int), .int .i64 now] w fun e w' => e = .returned (.tuple #[]) ∧ (∃ H', Rfr H' w' r g ts (begR ts s now rs (j : Int)) ∧ (∀ q, H' q → H q ∨ w.heap.size ≤ q)) ∧ Keep (only g) w w' := by
 have hHlt := Rfr.lt hR
 have hrH := Rfr.at_ hR
 have hgH := Rfr.atg hR
 have hrlt := hHlt _ hrH
 have hglt := hHlt _ hgH
 have hin := Rfr.inn hR
 obtain ⟨A, cap, hr, hA, hAo, hrg⟩ := Rfr.parts hR
 have hAlt := SlT.lt hA
 have hAr : ∀ q, inA A q → q ≠ r ∧ q ≠ g ∧ q < w.heap.size := fun q hq => ⟨(hAo q hq).2.1, (hAo q hq).2.2, hAlt q hq⟩
 have hgo : ∀ q, only g q → q ≠ r ∧ q = g := fun q hq => ⟨fun e => hrg (e.symm.trans hq), hq⟩
 have hgl : ∀ q, only g q → q < w.heap.size := fun q hq => by rw [show q = g from hq]; exact hglt
 have hHo : ∀ q, H q → 0 ≤ q := fun q _ => Nat.zero_le q
 have htl := hin.tl
 have hrl := hin.rl
 have hFlt := VotT.lt hV
 have hvlt := hFlt _ (VotT.at_ hV)
 have hVr : ∀ q, F q → q ≠ r := fun q hq e => hHF r hrH (e ▸ hq)
 have hHr : ∀ q, H q → H q ∨ w.heap.size ≤ q := fun _ h => .inl h
 obtain ⟨j9, hjj, _, htk, htm⟩ := trkA_at (ts := ts) (i := (j : Int)) (by omega)
 rw [show j9 = j by omega] at htk
 have hokt := hin.tok _ htm
 have hmost := hokt.1
 have hK0 : Keep (only g) w w := Keep.refl _ _
 have hzhK0 := Keep.size hK0
 refine enterV Tryz.func49 rfl [pt r, pt v, nt ((j : Nat) : Int), nt now] 59 rfl rfl rfl ?_
 refine V_pick [(0, pt r), (1, pt v), (2, nt ((j : Nat) : Int)), (3, nt now)] rfl ?_
 refine Vr ?_
 refine Os 4 [(0, pt r), (2, nt ((j : Nat) : Int)), (3, nt now), (15, pt r), (16, pt v), (17, nt ((j : Nat) : Int)), (18, nt now)] ?_
 refine Ok { callee := (Callee.value (Operand.func 103)), args := #[(Operand.tmp 15), (Operand.tmp 16), (Operand.tmp 17), (Operand.tmp 18)], argTypes := #[34, 33, 3, 3] } 103 #[pt r, pt v, nt ((j : Nat) : Int), nt now] (some 19) (waits_spec H r g ts rs F v s j now _ hR hV hHF hj) ?_
 rintro _ w1 ⟨A3, cap3, rfl, hA3, ow3, hk2⟩
 refine ⟨_, rfl, ?_⟩
 have hsz4 := Keep.size hk2
 replace hr := hr.keep hk2 (fun f => f)
 replace hA := SlT.keep0 hA hk2
 replace hR := Rfr.keep hR hk2 (fun _ _ f => f)
 replace hK0 := Keep.tr hK0 (Keep.ofNone hk2)
 have hwl9 := waitL_len (ts := ts) (of := (j : Int)) (now := now) rs 0
 have hdn9 := decN_bnd (of := (j : Int)) rs
 have hsl9 := sortD_len (fun r => (tallyT s r).a) (waitL ts (j : Int) now 0 rs)
 obtain ⟨nb9, hnb9, hnl9⟩ := begN ts rs j now
 have hcp9 := SlT.cap_le hA3
 replace hA3 := SlT.take hA3 nb9
 have ltA3 := SlT.lt hA3
 have htl9 : ((sortD (fun r => (tallyT s r).a) (waitL ts (j : Int) now 0 rs)).take nb9).length = nb9 := by rw [List.length_take, hsl9]; omega
 generalize hls9 : (sortD (fun r => (tallyT s r).a) (waitL ts (j : Int) now 0 rs)).take nb9 = ls at hA3 htl9
 refine Os 10 [(0, pt r), (2, nt ((j : Nat) : Int)), (3, nt now), (8, .slice A3 ((waitL ts (j : Int) now 0 rs).length) cap3), (9, nt (decN (j : Int) rs))] ?_
 refine Oer ?_
 refine Os 6 [(0, pt r), (2, nt ((j : Nat) : Int)), (3, nt now), (9, nt (decN (j : Int) rs)), (22, .slice A3 ((waitL ts (j : Int) now 0 rs).length) cap3), (24, nt (((waitL ts (j : Int) now 0 rs).length : Nat) : Int)), (27, pt r)] ?_
 refine Oc 29 (.tmp 27) 0 (.slice A ts.length cap) (some 28) hr rfl ?_
 refine Os 8 [(0, pt r), (3, nt now), (9, nt (decN (j : Int) rs)), (22, .slice A3 ((waitL ts (j : Int) now 0 rs).length) cap3), (24, nt (((waitL ts (j : Int) now 0 rs).length : Nat) : Int)), (28, .slice A ts.length cap), (29, nt ((j : Nat) : Int))] ?_
 obtain ⟨b5, o5, L5, T5, rfl, hat5⟩ := SlT.open_ hA (by first | omega | (simp only [List.length_map]; omega) | (simp; done) | (simp; omega))
 have hb5lt := hat5.blk.lt
 have hob6 := hAr b5 ⟨_, rfl, rfl⟩
 have hob7 := hAlt b5 ⟨_, rfl, rfl⟩
 refine OI_pure (some 30) (.indexAddr 29 (.tmp 28) (.tmp 29)) (by kernel_rfl) (pure_idxN (b := b5) (o := o5) (len := ts.length) (cap := cap) (kd := .i64) (j := j) (E := 27) (sz := 18) (by_ := 144) (by kernel_rfl) (by kernel_rfl) (by kernel_rfl) (by omega)) ?_
 refine Os 10 [(0, pt r), (3, nt now), (9, nt (decN (j : Int) rs)), (22, .slice A3 ((waitL ts (j : Int) now 0 rs).length) cap3), (24, nt (((waitL ts (j : Int) now 0 rs).length : Nat) : Int)), (31, .pointer (some ⟨b5, o5 + j * 18, none⟩))] ?_
 refine Oc 3 (.tmp 31) (o5 + j * 18) (nt ((trkA ts ((j : Nat) : Int)).most)) (some 32) hat5.blk (At.cell0 hat5 (es_at htk) rfl) ?_
 have hw8 : IntKind.i64.wrap (((trkA ts ((j : Nat) : Int)).most) - (decN (j : Int) rs)) = ((trkA ts ((j : Nat) : Int)).most) - (decN (j : Int) rs) := (wrap64_id (by omega) (by omega)).trans (by omega)
 refine Os 13 [(0, pt r), (3, nt now), (22, .slice A3 ((waitL ts (j : Int) now 0 rs).length) cap3), (24, nt (((waitL ts (j : Int) now 0 rs).length : Nat) : Int)), (34, nt (IntKind.i64.wrap (((trkA ts ((j : Nat) : Int)).most) - (decN (j : Int) rs))))] ?_
 refine OI_eq [(0, pt r), (3, nt now), (22, .slice A3 ((waitL ts (j : Int) now 0 rs).length) cap3), (24, nt (((waitL ts (j : Int) now 0 rs).length : Nat) : Int)), (34, nt (((trkA ts ((j : Nat) : Int)).most) - (decN (j : Int) rs)))] (by rw [hw8]) ?_
 refine Os 15 [(0, pt r), (3, nt now), (22, .slice A3 ((waitL ts (j : Int) now 0 rs).length) cap3), (36, nt (imin (((waitL ts (j : Int) now 0 rs).length : Nat) : Int) (imax (((trkA ts ((j : Nat) : Int)).most) - (decN (j : Int) rs)) 0)))] ?_
 refine Op_ [(0, pt r), (3, nt now), (22, .slice A3 ((waitL ts (j : Int) now 0 rs).length) cap3), (36, nt (imin (((waitL ts (j : Int) now 0 rs).length : Nat) : Int) (imax (((trkA ts ((j : Nat) : Int)).most) - (decN (j : Int) rs)) 0)))] ?_
 refine OI_eq [(0, pt r), (3, nt now), (22, .slice A3 ((waitL ts (j : Int) now 0 rs).length) cap3), (36, nt ((nb9 : Nat) : Int))] (by rw [show imin (((waitL ts (j : Int) now 0 rs).length : Nat) : Int) (imax (((trkA ts ((j : Nat) : Int)).most) - (decN (j : Int) rs)) 0) = ((nb9 : Nat) : Int) from hnb9]) ?_
 refine OI_pure (some 37) ((Op.slice 72 (Operand.tmp 22) none (some (Operand.tmp 36)) none)) (by kernel_rfl) (pure_sliceTo (E := 3) (sz := 1) (by_ := 8) (base := A3) (len := (waitL ts (j : Int) now 0 rs).length) (cap := cap3) (h := nb9) (kd := .i64) (by kernel_rfl) (by kernel_rfl) (by kernel_rfl) (by omega)) ?_
 refine Os 18 [(0, pt r), (3, nt now), (37, .slice A3 nb9 cap3), (38, nt ((nb9 : Nat) : Int)), (39, nt 0)] ?_
 refine Oe ?_
 refine V_block ?_
 refine V_pick [(0, pt r), (3, nt now), (37, .slice A3 nb9 cap3), (38, nt ((nb9 : Nat) : Int)), (39, nt 0)] rfl ?_
 refine V_loop (fun k wI e => ∃ i : Nat, ∃ Hi : Nat → Prop, (k + i = nb9) ∧ (Rfr Hi wI r g ts ((ls.take i).foldl (setN now) rs)) ∧ (∀ q, Hi q → 0 ≤ q) ∧ (∀ q, Hi q → H q ∨ w.heap.size ≤ q) ∧ Keep (only g) w1 wI ∧ e = [(0, pt r), (3, nt now), (37, .slice A3 nb9 cap3), (38, nt ((nb9 : Nat) : Int)), (39, nt ((i : Nat) : Int))]) nb9 ⟨0, H, by omega, hR, (fun q _ => Nat.zero_le q), hHr, Keep.refl _ _, rfl⟩ ?_
 rintro k10 w9 _ ⟨i, Hi, hki, hRi, hHio, hHifr, hk11, rfl⟩
 have hsz12 := Keep.size hk11
 replace hr := hr.keep hk11 (fun hs => by have h1 := hgo _ hs; have h2 := hgl _ hs; omega)
 replace hat5 := hat5.keep hk11 (fun hs => by have h1 := hgo _ hs; have h2 := hgl _ hs; omega)
 replace hA3 := SlT.keep hA3 hk11 (fun q hq hs => by have g0 := ow3 q hq; have g1 := ltA3 q hq; have h1 := hgo q hs; have h2 := hgl q hs; omega)
 replace hK0 := Keep.fresh hK0 hk11 (by intro i hi hs; first | exact hs | (exfalso; have h1 := hgo i hs; have h2 := hgl i hs; omega) | (have h1 := hgo i hs; have h2 := hgl i hs; show _ ∨ _; omega))
 have hzhk11 := Keep.size hk11
 have lt13 := Rfr.lt hRi
 have hsn := setsN_len (now := now) (ls.take i) rs
 refine Vr ?_
 refine Os 1 [(0, pt r), (3, nt now), (37, .slice A3 nb9 cap3), (38, nt ((nb9 : Nat) : Int)), (39, nt ((i : Nat) : Int)), (40, .bool (decide (((i : Nat) : Int) < ((nb9 : Nat) : Int))))] ?_
 refine Oe ?_
 refine V_seq ?_
 refine V_if (((i : Nat) : Int) < ((nb9 : Nat) : Int)) (by kernel_rfl) (fun hc14 => ?_) (fun hc14 => ?_)
 ·
  refine V_skip ?_
  refine X_then ?_
  refine V_seq ?_
  refine V_block ?_
  refine Vr ?_
  obtain ⟨b15, o15, L15, T15, rfl, hat15⟩ := SlT.open_ hA3 (by first | omega | (simp only [List.length_map]; omega) | (simp; done) | (simp; omega))
  have hb15lt := hat15.blk.lt
  have hob16 := ow3 b15 ⟨_, rfl, rfl⟩
  have hob17 := ltA3 b15 ⟨_, rfl, rfl⟩
  refine OI_pure (some 41) (.indexAddr 72 (.tmp 37) (.tmp 39)) (by kernel_rfl) (pure_idxN (b := b15) (o := o15) (len := nb9) (cap := cap3) (kd := .i64) (j := i) (E := 3) (sz := 1) (by_ := 8) (by kernel_rfl) (by kernel_rfl) (by kernel_rfl) (by omega)) ?_
  obtain ⟨x18, hx19⟩ : ∃ x, ls[i]? = some x := ⟨_, List.getElem?_eq_getElem (by first | omega | (simp only [List.length_map]; omega))⟩
  have hmx : 0 ≤ x18 ∧ x18 < (rs.length : Int) := by have h1 := List.mem_of_getElem? hx19; rw [← hls9] at h1; have h2 := waitL_mem (sortD_mem (List.mem_of_mem_take h1)); omega
  have hmg := getA_len (rs := (ls.take i).foldl (setN now) rs) (i := x18) (by omega)
  have hmt := (getA_at (Rfr.inn hRi) hmg).2.1
  refine Oc 3 (.tmp 41) (o15 + i * 1) (nt x18) (some 42) hat15.blk (At.cell0 hat15 (es_at hx19) rfl) ?_
  refine Os 3 [(0, pt r), (3, nt now), (11, nt x18), (37, .slice (some ⟨b15, o15, none⟩) nb9 cap3), (38, nt ((nb9 : Nat) : Int)), (39, nt ((i : Nat) : Int))] ?_
  refine Oer ?_
  refine Os 2 [(0, pt r), (3, nt now), (11, nt x18), (37, .slice (some ⟨b15, o15, none⟩) nb9 cap3), (38, nt ((nb9 : Nat) : Int)), (39, nt ((i : Nat) : Int)), (44, pt r), (45, nt x18)] ?_
  refine Ok { callee := (Callee.value (Operand.func 23)), args := #[(Operand.tmp 44), (Operand.tmp 45)], argTypes := #[34, 3] } 23 #[pt r, nt x18] (some 46) (rget_spec Hi r g ts ((ls.take i).foldl (setN now) rs) x18 _ hRi) ?_
  rintro _ w22 ⟨rfl, hk23⟩
  refine ⟨_, rfl, ?_⟩
  have hsz24 := Keep.size hk23
  replace hr := hr.keep hk23 (fun f => f)
  replace hat5 := hat5.keep hk23 (fun f => f)
  replace hat15 := hat15.keep hk23 (fun f => f)
  replace hK0 := Keep.tr hK0 (Keep.ofNone hk23)
  replace hk11 := Keep.tr hk11 (Keep.ofNone hk23)
  replace hRi := Rfr.keep hRi hk23 (fun _ _ f => f)
  refine Os 6 [(0, pt r), (3, nt now), (11, nt x18), (37, .slice (some ⟨b15, o15, none⟩) nb9 cap3), (38, nt ((nb9 : Nat) : Int)), (39, nt ((i : Nat) : Int)), (47, .agg (Rfm.cells (getA ((ls.take i).foldl (setN now) rs) x18)).toArray), (48, .bool ((getR ((ls.take i).foldl (setN now) rs) x18).isSome))] ?_
  refine OI_alloc 57 (.agg (Rfm.cells Rfm.zero).toArray) (Rfm.cells Rfm.zero) (some 12) (by kernel_rfl) (by kernel_rfl) (by kernel_rfl) ?_
  intro b25 w25 e25 hb25 k25 z25
  have hsz26 := Keep.size k25
  replace hr := hr.keep k25 (fun f => f)
  replace hat5 := hat5.keep k25 (fun f => f)
  replace hat15 := hat15.keep k25 (fun f => f)
  replace hK0 := Keep.tr hK0 (Keep.ofNone k25)
  replace hk11 := Keep.tr hk11 (Keep.ofNone k25)
  replace hRi := Rfr.keep hRi k25 (fun _ _ f => f)
  have hb25lt := hb25.lt
  refine OI_set (m := 45) (kd := true) 57 (.tmp 12) (.tmp 47) 0 (.agg (Rfm.cells (getA ((ls.take i).foldl (setN now) rs) x18)).toArray) (Rfm.cells (getA ((ls.take i).foldl (setN now) rs) x18)) none (by kernel_rfl) (by kernel_rfl) (by kernel_rfl) hb25 (by kernel_rfl) rfl (Rfm.len _) (Nat.le_of_ble_eq_true (by kernel_rfl)) (Rfm.one _) ?_
  intro w27 hb25_30 hk28 hz29
  replace hb25_30 : Blk w27 b25 (Rfm.cells (getA ((ls.take i).foldl (setN now) rs) x18)) 57 := (Blk.eqL (Rfm.over _ _) hb25_30)
  have hsz31 := Keep.size hk28
  replace hr := hr.keep hk28 (by show ¬ (_ = _); omega)
  replace hat5 := hat5.keep hk28 (by show ¬ (_ = _); omega)
  replace hat15 := hat15.keep hk28 (by show ¬ (_ = _); omega)
  replace hK0 := Keep.fresh hK0 hk28 (by intro i hi hs; first | exact hs | exact Or.inl hs | exact Or.inr hs | (exfalso; have hs2 : i = b25 := hs; omega))
  replace hk11 := Keep.fresh hk11 hk28 (by intro i hi hs; first | exact hs | exact Or.inl hs | exact Or.inr hs | (exfalso; have hs2 : i = b25 := hs; omega))
  replace hRi := Rfr.keep hRi hk28 (fun q hq hs => by have hs : q = b25 := hs; have g0 := hHio q hq; have g1 := lt13 q hq; omega)
  refine Os 9 [(0, pt r), (3, nt now), (11, nt x18), (12, pt b25), (37, .slice (some ⟨b15, o15, none⟩) nb9 cap3), (38, nt ((nb9 : Nat) : Int)), (39, nt ((i : Nat) : Int))] ?_
  refine Oer ?_
  refine Os 2 [(0, pt r), (3, nt now), (11, nt x18), (12, pt b25), (37, .slice (some ⟨b15, o15, none⟩) nb9 cap3), (38, nt ((nb9 : Nat) : Int)), (39, nt ((i : Nat) : Int)), (49, nt now), (50, .pointer (some ⟨b25, 39, none⟩))] ?_
  refine OI_set (m := 1) (kd := false) 3 (.tmp 50) (.tmp 49) 39 (nt now) [nt now] none (by kernel_rfl) (by kernel_rfl) (by kernel_rfl) hb25_30 (by kernel_rfl) (by kernel_rfl) (by kernel_rfl) (Nat.le_of_ble_eq_true (by kernel_rfl)) (by simp [Value.oneCell']) ?_
  intro w32 hb25_35 hk33 hz34
  replace hb25_35 : Blk w32 b25 (Rfm.cells { (getA ((ls.take i).foldl (setN now) rs) x18) with since := now }) 57 := (Blk.eqL (by kernel_rfl) hb25_35)
  have hsz36 := Keep.size hk33
  replace hr := hr.keep hk33 (by show ¬ (_ = _); omega)
  replace hat5 := hat5.keep hk33 (by show ¬ (_ = _); omega)
  replace hat15 := hat15.keep hk33 (by show ¬ (_ = _); omega)
  replace hK0 := Keep.fresh hK0 hk33 (by intro i hi hs; first | exact hs | exact Or.inl hs | exact Or.inr hs | (exfalso; have hs2 : i = b25 := hs; omega))
  replace hk11 := Keep.fresh hk11 hk33 (by intro i hi hs; first | exact hs | exact Or.inl hs | exact Or.inr hs | (exfalso; have hs2 : i = b25 := hs; omega))
  replace hRi := Rfr.keep hRi hk33 (fun q hq hs => by have hs : q = b25 := hs; have g0 := hHio q hq; have g1 := lt13 q hq; omega)
  refine Oe ?_
  refine V_draws (acts [6]) none_ [[0, 1, 2, 3, 4, 5, 6]] (by kernel_rfl) (by repeat first | exact (by first | exact sure_body (by rintro _ _ ⟨_, _, h, _⟩; exact ⟨_, h⟩) | exact sure_body (by rintro _ _ ⟨h, _⟩; exact ⟨_, h⟩)) | refine sure_then ?_ | refine sure_block ?_ | refine sure_join ?_) (by kernel_rfl) ?_
  intro w38 hk37 he39 L hL40
  have hsz41 := Keep.size hk37
  replace hr := hr.keep hk37 (fun f => f)
  replace hb25_35 := hb25_35.keep hk37 (fun f => f)
  replace hat5 := hat5.keep hk37 (fun f => f)
  replace hat15 := hat15.keep hk37 (fun f => f)
  replace hK0 := Keep.tr hK0 (Keep.ofNone hk37)
  replace hk11 := Keep.tr hk11 (Keep.ofNone hk37)
  replace hRi := Rfr.keep hRi hk37 (fun _ _ f => f)
  have qhr := hr
  have qhb25_35 := hb25_35
  have qhat5 := hat5
  have qhat15 := hat15
  have K42 : Keep none_ w38 w38 := Keep.refl _ _
  obtain rfl := List.mem_singleton.1 hL40
  refine Gs [3, 4, 5, 6] [(0, pt r), (3, nt now), (11, nt x18), (12, pt b25), (37, .slice (some ⟨b15, o15, none⟩) nb9 cap3), (38, nt ((nb9 : Nat) : Int)), (39, nt ((i : Nat) : Int)), (53, .pointer (some ⟨r, 1, none⟩))] ?_
  refine Gc0 95 (.tmp 53) 1 (pt g) (some 54) qhr rfl ?_
  refine Gs [5, 6] [(0, pt r), (3, nt now), (12, pt b25), (37, .slice (some ⟨b15, o15, none⟩) nb9 cap3), (38, nt ((nb9 : Nat) : Int)), (39, nt ((i : Nat) : Int)), (54, pt g), (55, nt x18)] ?_
  refine Ga 57 (.tmp 12) 0 (Rfm.cells { (getA ((ls.take i).foldl (setN now) rs) x18) with since := now }) (some 56) 45 qhb25_35 (fun f => f) (take_all (Rfm.len _)) (Rfm.len _) ?_
  refine GI_final 6 (by kernel_rfl) (by kernel_rfl) ?_
  refine Ok { callee := (Callee.value (Operand.func 45)), args := #[(Operand.tmp 54), (Operand.const (Value.int IntKind.i64 0)), (Operand.tmp 55), (Operand.tmp 56)], argTypes := #[95, 3, 3, 57] } 45 #[pt g, nt 0, nt x18, .agg (Rfm.cells { (getA ((ls.take i).foldl (setN now) rs) x18) with since := now }).toArray] (some 57) (rset_spec Hi r g ts ((ls.take i).foldl (setN now) rs) x18 ({ (getA ((ls.take i).foldl (setN now) rs) x18) with since := now }) _ hRi (by omega) hmt) ?_
  rintro _ w47 ⟨rfl, ⟨H49, hR50, hfr51⟩, hk48⟩
  refine ⟨_, rfl, ?_⟩
  have hsz52 := Keep.size hk48
  replace hr := hr.keep hk48 (fun hs => by have h1 := hgo _ hs; have h2 := hgl _ hs; omega)
  replace hb25_35 := hb25_35.keep hk48 (fun hs => by have h1 := hgo _ hs; have h2 := hgl _ hs; omega)
  replace hat5 := hat5.keep hk48 (fun hs => by have h1 := hgo _ hs; have h2 := hgl _ hs; omega)
  replace hat15 := hat15.keep hk48 (fun hs => by have h1 := hgo _ hs; have h2 := hgl _ hs; omega)
  replace hK0 := Keep.fresh hK0 hk48 (by intro i hi hs; first | exact hs | (exfalso; have h1 := hgo i hs; have h2 := hgl i hs; omega) | (have h1 := hgo i hs; have h2 := hgl i hs; show _ ∨ _; omega))
  replace hk11 := Keep.fresh hk11 hk48 (by intro i hi hs; first | exact hs | (exfalso; have h1 := hgo i hs; have h2 := hgl i hs; omega) | (have h1 := hgo i hs; have h2 := hgl i hs; show _ ∨ _; omega))
  have own54 : ∀ q, H49 q → 0 ≤ q ∧ q ≠ b25 := fun q hq => by rcases hfr51 q hq with h | h; (have h1 := hHio q h; have h2 := lt13 q h; omega); omega
  have lt53 := Rfr.lt hR50
  have rel55 : ∀ q, H49 q → H q ∨ w.heap.size ≤ q := fun q hq => by rcases hfr51 q hq with h | h; exact hHifr q h; exact .inr (by omega)
  refine OI_end rfl ?_
  refine X_block ?_
  refine X_then ?_
  refine V_region ?_
  have hw56 : IntKind.i64.wrap (((i : Nat) : Int) + 1) = ((i + 1 : Nat) : Int) := (wrap64_id (by omega) (by omega)).trans (by omega)
  refine Os 1 [(0, pt r), (3, nt now), (37, .slice (some ⟨b15, o15, none⟩) nb9 cap3), (38, nt ((nb9 : Nat) : Int)), (58, nt (IntKind.i64.wrap (((i : Nat) : Int) + 1)))] ?_
  refine OI_eq [(0, pt r), (3, nt now), (37, .slice (some ⟨b15, o15, none⟩) nb9 cap3), (38, nt ((nb9 : Nat) : Int)), (58, nt ((i + 1 : Nat) : Int))] (by rw [hw56]) ?_
  refine Os 2 [(0, pt r), (3, nt now), (37, .slice (some ⟨b15, o15, none⟩) nb9 cap3), (38, nt ((nb9 : Nat) : Int)), (39, nt ((i + 1 : Nat) : Int))] ?_
  refine OI_end rfl ?_
  exact V_again (k10 - 1) (by omega) [(0, pt r), (3, nt now), (37, .slice (some ⟨b15, o15, none⟩) nb9 cap3), (38, nt ((nb9 : Nat) : Int)), (39, nt ((i + 1 : Nat) : Int))] rfl ⟨i + 1, H49, by omega, by rw [setsN_step hx19]; exact hR50, (fun q hq => by have h1 := own54 q hq; omega), rel55, hk11, rfl⟩
 refine V_exit ?_
 refine X_exit_then ?_
 refine X_exit_then ?_
 refine X_exit_here ?_
 have hie : i = nb9 := by omega
 have hfin : begR ts s now rs (j : Int) = (ls.take i).foldl (setN now) rs := by unfold begR begL; rw [hnb9, Int.toNat_natCast, hls9, hie, List.take_of_length_le (by omega)]
 exact X_end _ rfl ⟨rfl, ⟨Hi, (by rw [hfin]; exact hRi), hHifr⟩, hK0⟩
end Go.Al


namespace Go.Al
open Go Go.RowKit Go.Proofs
set_option maxRecDepth 10000 in
set_option maxHeartbeats 1000000 in
theorem decides_spec (H : Nat → Prop) (r g : Nat) (ts : List Trk) (rs : List Rfm) (x : Rfm) (y : Tly) (iss now : Int) (w : World) (hR : Rfr H w r g ts rs) (htr : 0 ≤ x.track ∧ x.track < ts.length) : Calls Tryz.prog 50 #[.pointer (some ⟨r, 0, none⟩), .agg x.cells.toArray, .agg y.cells.toArray, .int .i64 iss, .int .i64 now] w fun e w' => e = .returned (.tuple #[.agg (decY ts x y iss now).cells.toArray, .int .i64 (decE ts x y iss now)]) ∧ Keep none_ w w' := by
 have hHlt := Rfr.lt hR
 have hrH := Rfr.at_ hR
 have hgH := Rfr.atg hR
 have hrlt := hHlt _ hrH
 have hglt := hHlt _ hgH
 have hin := Rfr.inn hR
 obtain ⟨A, cap, hr, hA, hAo, hrg⟩ := Rfr.parts hR
 have hAlt := SlT.lt hA
 have hAr : ∀ q, inA A q → q ≠ r ∧ q ≠ g ∧ q < w.heap.size := fun q hq => ⟨(hAo q hq).2.1, (hAo q hq).2.2, hAlt q hq⟩
 have hgo : ∀ q, only g q → q ≠ r ∧ q = g := fun q hq => ⟨fun e => hrg (e.symm.trans hq), hq⟩
 have hgl : ∀ q, only g q → q < w.heap.size := fun q hq => by rw [show q = g from hq]; exact hglt
 have hHo : ∀ q, H q → 0 ≤ q := fun q _ => Nat.zero_le q
 have htl := hin.tl
 have hrl := hin.rl
 obtain ⟨jt, hjt, hjl, htk, htm⟩ := trkA_at htr
 have hokt := hin.tok _ htm
 have hK0 : Keep none_ w w := Keep.refl _ _
 have hzhK0 := Keep.size hK0
 refine enterM Tryz.func50 rfl [pt r, .agg (Rfm.cells x).toArray, .agg (Tly.cells y).toArray, nt iss, nt now] 77 rfl rfl rfl ?_
 refine V_pick [(0, pt r), (1, .agg (Rfm.cells x).toArray), (2, .agg (Tly.cells y).toArray), (3, nt iss), (4, nt now)] rfl ?_
 refine Vr ?_
 refine OI_box 57 (.tmp 1) (.agg (Rfm.cells x).toArray) (Rfm.cells x) (some 6) (by kernel_rfl) (by kernel_rfl) rfl ?_
 intro b1 w1 e1 hb1 k1 z1
 have hsz2 := Keep.size k1
 replace hr := hr.keep k1 (fun f => f)
 replace hA := SlT.keep0 hA k1
 replace hR := Rfr.keep hR k1 (fun _ _ f => f)
 replace hK0 := Keep.tr hK0 (Keep.ofNone k1)
 have hb1lt := hb1.lt
 refine OI_box 55 (.tmp 2) (.agg (Tly.cells y).toArray) (Tly.cells y) (some 7) (by kernel_rfl) (by kernel_rfl) rfl ?_
 intro b3 w3 e3 hb3 k3 z3
 have hsz4 := Keep.size k3
 replace hr := hr.keep k3 (fun f => f)
 replace hb1 := hb1.keep k3 (fun f => f)
 replace hA := SlT.keep0 hA k3
 replace hR := Rfr.keep hR k3 (fun _ _ f => f)
 replace hK0 := Keep.tr hK0 (Keep.ofNone k3)
 have hb3lt := hb3.lt
 refine OI_alloc 57 (.agg (Rfm.cells Rfm.zero).toArray) (Rfm.cells Rfm.zero) (some 10) (by kernel_rfl) (by kernel_rfl) (by kernel_rfl) ?_
 intro b5 w5 e5 hb5 k5 z5
 have hsz6 := Keep.size k5
 replace hr := hr.keep k5 (fun f => f)
 replace hb1 := hb1.keep k5 (fun f => f)
 replace hb3 := hb3.keep k5 (fun f => f)
 replace hA := SlT.keep0 hA k5
 replace hR := Rfr.keep hR k5 (fun _ _ f => f)
 replace hK0 := Keep.tr hK0 (Keep.ofNone k5)
 have hb5lt := hb5.lt
 refine Os 4 [(0, pt r), (3, nt iss), (4, nt now), (6, pt b1), (7, pt b3), (10, pt b5)] ?_
 refine Oe ?_
 refine V_seq ?_
 refine Vr ?_
 refine Os 1 [(0, pt r), (3, nt iss), (4, nt now), (6, pt b1), (7, pt b3), (10, pt b5), (13, .pointer (some ⟨b1, 39, none⟩))] ?_
 refine Oc 3 (.tmp 13) 39 (nt x.since) (some 14) hb1 rfl ?_
 refine Os 3 [(0, pt r), (3, nt iss), (4, nt now), (6, pt b1), (7, pt b3), (10, pt b5), (15, .bool (decide (x.since = -1)))] ?_
 refine Oe ?_
 refine V_if (x.since = -1) (by kernel_rfl) (fun hc7 => ?_) (fun hc7 => ?_)
 ·
  refine V_seq ?_
  refine Vr ?_
  refine Os 2 [(6, pt b1), (10, pt b5), (16, nt now), (17, .pointer (some ⟨b1, 35, none⟩))] ?_
  refine Oc 3 (.tmp 17) 35 (nt x.sub) (some 18) hb1 rfl ?_
  refine Os 5 [(6, pt b1), (10, pt b5), (20, .bool (decide (IntKind.i64.wrap (now - x.sub) ≥ 30)))] ?_
  refine Oe ?_
  refine V_if (IntKind.i64.wrap (now - x.sub) ≥ 30) (by kernel_rfl) (fun hc8 => ?_) (fun hc8 => ?_)
  ·
   refine Vr ?_
   refine Oa 57 (.tmp 6) 0 (Rfm.cells x) (some 21) 45 hb1 (take_all (Rfm.len _)) (Rfm.len _) ?_
   refine OI_set (m := 45) (kd := true) 57 (.tmp 10) (.tmp 21) 0 (.agg (Rfm.cells x).toArray) (Rfm.cells x) none (by kernel_rfl) (by kernel_rfl) (by kernel_rfl) hb5 (by kernel_rfl) rfl (Rfm.len _) (Nat.le_of_ble_eq_true (by kernel_rfl)) (Rfm.one _) ?_
   intro w9 hb5_12 hk10 hz11
   replace hb5_12 : Blk w9 b5 (Rfm.cells x) 57 := (Blk.eqL (Rfm.over _ _) hb5_12)
   have hsz13 := Keep.size hk10
   replace hr := hr.keep hk10 (by show ¬ (_ = _); omega)
   replace hb1 := hb1.keep hk10 (by show ¬ (_ = _); omega)
   replace hb3 := hb3.keep hk10 (by show ¬ (_ = _); omega)
   replace hA := SlT.keep hA hk10 (fun q hq hs => by have hs : q = b5 := hs; have g0 := hAr q hq; have g1 := hAlt q hq; omega)
   replace hR := Rfr.keep hR hk10 (fun q hq hs => by have hs : q = b5 := hs; have g0 := hHo q hq; have g1 := hHlt q hq; omega)
   replace hK0 := Keep.fresh hK0 hk10 (by intro i hi hs; first | exact hs | exact Or.inl hs | exact Or.inr hs | (exfalso; have hs2 : i = b5 := hs; omega))
   refine Os 3 [(10, pt b5), (11, nt 4)] ?_
   refine Oe ?_
   refine V_ret ?_
   refine X_ret_then ?_
   refine X_ret_then ?_
   have hY : decY ts x y iss now = x := by unfold decY; rw [if_pos hc7]
   have hE : decE ts x y iss now = 4 := by unfold decE; rw [if_pos hc7, if_pos hc8]
   exact leave0 (.tuple #[.agg (Rfm.cells x).toArray, .int .i64 4]) (.inl rfl) (res_agg_tmp (m := 45) rfl rfl rfl (by kernel_rfl) hb5_12 rfl) ⟨by rw [hY, hE] <;> rfl, hK0⟩
  refine V_skip ?_
  refine X_then ?_
  refine Vr ?_
  refine Oa 57 (.tmp 6) 0 (Rfm.cells x) (some 22) 45 hb1 (take_all (Rfm.len _)) (Rfm.len _) ?_
  refine OI_set (m := 45) (kd := true) 57 (.tmp 10) (.tmp 22) 0 (.agg (Rfm.cells x).toArray) (Rfm.cells x) none (by kernel_rfl) (by kernel_rfl) (by kernel_rfl) hb5 (by kernel_rfl) rfl (Rfm.len _) (Nat.le_of_ble_eq_true (by kernel_rfl)) (Rfm.one _) ?_
  intro w14 hb5_17 hk15 hz16
  replace hb5_17 : Blk w14 b5 (Rfm.cells x) 57 := (Blk.eqL (Rfm.over _ _) hb5_17)
  have hsz18 := Keep.size hk15
  replace hr := hr.keep hk15 (by show ¬ (_ = _); omega)
  replace hb1 := hb1.keep hk15 (by show ¬ (_ = _); omega)
  replace hb3 := hb3.keep hk15 (by show ¬ (_ = _); omega)
  replace hA := SlT.keep hA hk15 (fun q hq hs => by have hs : q = b5 := hs; have g0 := hAr q hq; have g1 := hAlt q hq; omega)
  replace hR := Rfr.keep hR hk15 (fun q hq hs => by have hs : q = b5 := hs; have g0 := hHo q hq; have g1 := hHlt q hq; omega)
  replace hK0 := Keep.fresh hK0 hk15 (by intro i hi hs; first | exact hs | exact Or.inl hs | exact Or.inr hs | (exfalso; have hs2 : i = b5 := hs; omega))
  refine Os 3 [(10, pt b5), (11, nt 0)] ?_
  refine Oe ?_
  refine V_ret ?_
  refine X_ret_then ?_
  have hY : decY ts x y iss now = x := by unfold decY; rw [if_pos hc7]
  have hE : decE ts x y iss now = 0 := by unfold decE; rw [if_pos hc7, if_neg hc8]
  exact leave0 (.tuple #[.agg (Rfm.cells x).toArray, .int .i64 0]) (.inl rfl) (res_agg_tmp (m := 45) rfl rfl rfl (by kernel_rfl) hb5_17 rfl) ⟨by rw [hY, hE] <;> rfl, hK0⟩
 refine V_skip ?_
 refine X_then ?_
 refine V_seq ?_
 refine V_draws (acts [8, 9]) none_ [[8, 0, 1, 2, 3, 4, 5, 6, 7, 9]] (by kernel_rfl) (by repeat first | exact (by first | exact sure_postM | exact sure_rQ2 | exact sure_no) | refine sure_then ?_ | refine sure_block ?_ | refine sure_join ?_) (by kernel_rfl) ?_
 intro w20 hk19 he21 L hL22
 have hsz23 := Keep.size hk19
 replace hr := hr.keep hk19 (fun f => f)
 replace hb1 := hb1.keep hk19 (fun f => f)
 replace hb3 := hb3.keep hk19 (fun f => f)
 replace hb5 := hb5.keep hk19 (fun f => f)
 replace hA := SlT.keep0 hA hk19
 replace hR := Rfr.keep hR hk19 (fun _ _ f => f)
 replace hK0 := Keep.tr hK0 (Keep.ofNone hk19)
 have qhr := hr
 have qhb1 := hb1
 have qhb3 := hb3
 have qhb5 := hb5
 have qhA := hA
 have K24 : Keep none_ w20 w20 := Keep.refl _ _
 obtain rfl := List.mem_singleton.1 hL22
 refine GI_alloc 27 (.agg (Trk.cells Trk.zero).toArray) (Trk.cells Trk.zero) (some 12) (by kernel_rfl) (by kernel_rfl) K24 (by kernel_rfl) (by kernel_rfl) ?_
 intro b25 w25 e25 hb25 k25 z25 K26
 have hsz27 := Keep.size k25
 replace hr := hr.keep k25 (fun f => f)
 replace hb1 := hb1.keep k25 (fun f => f)
 replace hb3 := hb3.keep k25 (fun f => f)
 replace hb5 := hb5.keep k25 (fun f => f)
 replace hA := SlT.keep0 hA k25
 replace hR := Rfr.keep hR k25 (fun _ _ f => f)
 replace hK0 := Keep.tr hK0 (Keep.ofNone k25)
 have hb25lt := hb25.lt
 refine Gs [3, 4, 5, 6, 7, 9] [(3, nt iss), (4, nt now), (6, pt b1), (7, pt b3), (10, pt b5), (12, pt b25), (25, pt r)] ?_
 refine Gc0 29 (.tmp 25) 0 (.slice A ts.length cap) (some 26) qhr rfl ?_
 refine Gs [5, 6, 7, 9] [(3, nt iss), (4, nt now), (6, pt b1), (7, pt b3), (10, pt b5), (12, pt b25), (26, .slice A ts.length cap), (27, .pointer (some ⟨b1, 1, none⟩))] ?_
 refine Gc0 3 (.tmp 27) 1 (nt x.track) (some 28) qhb1 rfl ?_
 obtain ⟨b28, o28, L28, T28, rfl, hat28⟩ := SlT.open_ hA (by first | omega | (simp only [List.length_map]; omega) | (simp; done) | (simp; omega))
 have hb28lt := hat28.blk.lt
 have hob29 := hAr b28 ⟨_, rfl, rfl⟩
 have hob30 := hAlt b28 ⟨_, rfl, rfl⟩
 obtain ⟨qL28, qT28, qhat28⟩ := SlT.openA qhA (by first | omega | (simp; done) | (simp; omega))
 refine Gp_ [(3, nt iss), (4, nt now), (6, pt b1), (7, pt b3), (10, pt b5), (12, pt b25), (26, .slice (some ⟨b28, o28, none⟩) ts.length cap), (28, nt x.track)] ?_
 refine GI_eq [(3, nt iss), (4, nt now), (6, pt b1), (7, pt b3), (10, pt b5), (12, pt b25), (26, .slice (some ⟨b28, o28, none⟩) ts.length cap), (28, nt ((jt : Nat) : Int))] (by rw [hjt]) ?_
 refine GI_pure (some 29) (.indexAddr 29 (.tmp 26) (.tmp 28)) (by kernel_rfl) (by kernel_rfl) (pure_idxN (b := b28) (o := o28) (len := ts.length) (cap := cap) (kd := .i64) (j := jt) (E := 27) (sz := 18) (by_ := 144) (by kernel_rfl) (by kernel_rfl) (by kernel_rfl) (by omega)) ?_
 refine Ga 27 (.tmp 29) (o28 + jt * 18) (Trk.cells (trkA ts x.track)) (some 30) 18 qhat28.blk (fun f => f) (At.elem' qhat28 (es_at htk)) (At.len qhat28 (es_at htk)) ?_
 refine GI_final 9 (by kernel_rfl) (by kernel_rfl) ?_
 refine OI_set (m := 18) (kd := true) 27 (.tmp 12) (.tmp 30) 0 (.agg (Trk.cells (trkA ts x.track)).toArray) (Trk.cells (trkA ts x.track)) none (by kernel_rfl) (by kernel_rfl) (by kernel_rfl) hb25 (by kernel_rfl) rfl (Trk.len _) (Nat.le_of_ble_eq_true (by kernel_rfl)) (Trk.one _) ?_
 intro w31 hb25_34 hk32 hz33
 replace hb25_34 : Blk w31 b25 (Trk.cells (trkA ts x.track)) 27 := (Blk.eqL (Trk.over _ _) hb25_34)
 have hsz35 := Keep.size hk32
 replace hr := hr.keep hk32 (by show ¬ (_ = _); omega)
 replace hb1 := hb1.keep hk32 (by show ¬ (_ = _); omega)
 replace hb3 := hb3.keep hk32 (by show ¬ (_ = _); omega)
 replace hb5 := hb5.keep hk32 (by show ¬ (_ = _); omega)
 replace hat28 := hat28.keep hk32 (by show ¬ (_ = _); omega)
 replace hR := Rfr.keep hR hk32 (fun q hq hs => by have hs : q = b25 := hs; have g0 := hHo q hq; have g1 := hHlt q hq; omega)
 replace hK0 := Keep.fresh hK0 hk32 (by intro i hi hs; first | exact hs | exact Or.inl hs | exact Or.inr hs | (exfalso; have hs2 : i = b25 := hs; omega))
 refine Oe ?_
 refine V_seq ?_
 refine V_block ?_
 refine Vr ?_
 refine Oa 27 (.tmp 12) 0 (Trk.cells (trkA ts x.track)) (some 32) 18 hb25_34 (take_all (Trk.len _)) (Trk.len _) ?_
 refine Oa 55 (.tmp 7) 0 (Tly.cells y) (some 33) 3 hb3 (take_all (Tly.len _)) (Tly.len _) ?_
 refine Os 5 [(4, nt now), (6, pt b1), (10, pt b5), (12, pt b25), (32, .agg (Trk.cells (trkA ts x.track)).toArray), (33, .agg (Tly.cells y).toArray), (34, nt iss), (35, nt now), (36, .pointer (some ⟨b1, 39, none⟩))] ?_
 refine Oc 3 (.tmp 36) 39 (nt x.since) (some 37) hb1 rfl ?_
 refine Os 7 [(4, nt now), (6, pt b1), (10, pt b5), (12, pt b25), (32, .agg (Trk.cells (trkA ts x.track)).toArray), (33, .agg (Tly.cells y).toArray), (34, nt iss), (38, nt (IntKind.i64.wrap (now - x.since)))] ?_
 refine Ok { callee := (Callee.value (Operand.func 104)), args := #[(Operand.tmp 32), (Operand.tmp 33), (Operand.tmp 34), (Operand.tmp 38)], argTypes := #[27, 55, 3, 3] } 104 #[.agg (Trk.cells (trkA ts x.track)).toArray, .agg (Tly.cells y).toArray, nt iss, nt (IntKind.i64.wrap (now - x.since))] (some 39) (passing_spec (trkA ts x.track) y iss (IntKind.i64.wrap (now - x.since)) _ (hokt.2.2.2.2.2.2.2.1) (hokt.2.2.2.2.2.2.2.2.1)) ?_
 rintro _ w36 ⟨rfl, hk37⟩
 refine ⟨_, rfl, ?_⟩
 have hsz38 := Keep.size hk37
 replace hr := hr.keep hk37 (fun f => f)
 replace hb1 := hb1.keep hk37 (fun f => f)
 replace hb3 := hb3.keep hk37 (fun f => f)
 replace hb5 := hb5.keep hk37 (fun f => f)
 replace hb25_34 := hb25_34.keep hk37 (fun f => f)
 replace hat28 := hat28.keep hk37 (fun f => f)
 replace hR := Rfr.keep hR hk37 (fun _ _ f => f)
 replace hK0 := Keep.tr hK0 (Keep.ofNone hk37)
 refine Os 10 [(4, nt now), (6, pt b1), (10, pt b5), (12, pt b25), (31, .bool (!(passB (trkA ts x.track) y iss (IntKind.i64.wrap (now - x.since)))))] ?_
 refine Oe ?_
 refine V_ifb (!(passB (trkA ts x.track) y iss (IntKind.i64.wrap (now - x.since)))) (by kernel_rfl) (fun hc39 => ?_) (fun hc39 => ?_)
 ·
  refine V_region ?_
  refine Os 1 [(4, nt now), (6, pt b1), (10, pt b5), (12, pt b25), (41, .pointer (some ⟨b1, 40, none⟩))] ?_
  refine OI_set (m := 1) (kd := false) 3 (.tmp 41) (.const (Value.int IntKind.i64 (-1))) 40 (nt (-1)) [nt (-1)] none (by kernel_rfl) (by kernel_rfl) (by kernel_rfl) hb1 (by kernel_rfl) (by kernel_rfl) (by kernel_rfl) (Nat.le_of_ble_eq_true (by kernel_rfl)) (by simp [Value.oneCell']) ?_
  intro w40 hb1_43 hk41 hz42
  replace hb1_43 : Blk w40 b1 (Rfm.cells { x with till := -1 }) 57 := (Blk.eqL (by kernel_rfl) hb1_43)
  have hsz44 := Keep.size hk41
  replace hr := hr.keep hk41 (by show ¬ (_ = _); omega)
  replace hb3 := hb3.keep hk41 (by show ¬ (_ = _); omega)
  replace hb5 := hb5.keep hk41 (by show ¬ (_ = _); omega)
  replace hb25_34 := hb25_34.keep hk41 (by show ¬ (_ = _); omega)
  replace hat28 := hat28.keep hk41 (by show ¬ (_ = _); omega)
  replace hR := Rfr.keep hR hk41 (fun q hq hs => by have hs : q = b1 := hs; have g0 := hHo q hq; have g1 := hHlt q hq; omega)
  replace hK0 := Keep.fresh hK0 hk41 (by intro i hi hs; first | exact hs | exact Or.inl hs | exact Or.inr hs | (exfalso; have hs2 : i = b1 := hs; omega))
  refine OI_end rfl ?_
  refine X_block ?_
  refine X_then ?_
  refine V_seq ?_
  refine V_block ?_
  refine Vr ?_
  refine Os 1 [(4, nt now), (6, pt b1), (10, pt b5), (12, pt b25), (52, .pointer (some ⟨b1, 40, none⟩))] ?_
  refine Oc 3 (.tmp 52) 40 (nt (-1)) (some 53) hb1_43 rfl ?_
  refine Os 10 [(4, nt now), (6, pt b1), (10, pt b5), (12, pt b25), (51, .bool false)] ?_
  refine Oe ?_
  refine V_false rfl ?_
  refine Vr ?_
  refine Os 1 [(4, nt now), (6, pt b1), (10, pt b5), (12, pt b25), (63, .pointer (some ⟨b1, 40, none⟩))] ?_
  refine Oc 3 (.tmp 63) 40 (nt (-1)) (some 64) hb1_43 rfl ?_
  refine Os 6 [(6, pt b1), (10, pt b5), (12, pt b25), (66, .bool true), (67, nt now), (68, .pointer (some ⟨b1, 39, none⟩))] ?_
  refine Oc 3 (.tmp 68) 39 (nt x.since) (some 69) hb1_43 rfl ?_
  refine Os 9 [(6, pt b1), (10, pt b5), (66, .bool true), (70, nt (IntKind.i64.wrap (now - x.since))), (71, .pointer (some ⟨b25, 3, none⟩))] ?_
  refine Oc 3 (.tmp 71) 3 (nt ((trkA ts x.track).decision)) (some 72) hb25_34 rfl ?_
  refine Os 13 [(6, pt b1), (10, pt b5), (62, .bool (decide (IntKind.i64.wrap (now - x.since) ≥ (trkA ts x.track).decision)))] ?_
  refine Oe ?_
  refine V_if (IntKind.i64.wrap (now - x.since) ≥ (trkA ts x.track).decision) (by kernel_rfl) (fun hc45 => ?_) (fun hc45 => ?_)
  ·
   refine Vr ?_
   refine Oa 57 (.tmp 6) 0 (Rfm.cells { x with till := -1 }) (some 75) 45 hb1_43 (take_all (Rfm.len _)) (Rfm.len _) ?_
   refine OI_set (m := 45) (kd := true) 57 (.tmp 10) (.tmp 75) 0 (.agg (Rfm.cells { x with till := -1 }).toArray) (Rfm.cells { x with till := -1 }) none (by kernel_rfl) (by kernel_rfl) (by kernel_rfl) hb5 (by kernel_rfl) rfl (Rfm.len _) (Nat.le_of_ble_eq_true (by kernel_rfl)) (Rfm.one _) ?_
   intro w46 hb5_49 hk47 hz48
   replace hb5_49 : Blk w46 b5 (Rfm.cells ({ x with till := -1 })) 57 := (Blk.eqL (Rfm.over _ _) hb5_49)
   have hsz50 := Keep.size hk47
   replace hr := hr.keep hk47 (by show ¬ (_ = _); omega)
   replace hb1_43 := hb1_43.keep hk47 (by show ¬ (_ = _); omega)
   replace hb3 := hb3.keep hk47 (by show ¬ (_ = _); omega)
   replace hb25_34 := hb25_34.keep hk47 (by show ¬ (_ = _); omega)
   replace hat28 := hat28.keep hk47 (by show ¬ (_ = _); omega)
   replace hR := Rfr.keep hR hk47 (fun q hq hs => by have hs : q = b5 := hs; have g0 := hHo q hq; have g1 := hHlt q hq; omega)
   replace hK0 := Keep.fresh hK0 hk47 (by intro i hi hs; first | exact hs | exact Or.inl hs | exact Or.inr hs | (exfalso; have hs2 : i = b5 := hs; omega))
   refine Os 3 [(10, pt b5), (11, nt 3)] ?_
   refine Oe ?_
   refine V_ret ?_
   refine X_ret_block ?_
   refine X_ret_then ?_
   have hu : tillI ts x y iss now = -1 := by unfold tillI; rw [if_pos (by simpa using hc39)]
   have hw1 : w64 (now - x.since) = IntKind.i64.wrap (now - x.since) := rfl
   have hw2 : w64 (now + (trkA ts x.track).confirm) = IntKind.i64.wrap (now + (trkA ts x.track).confirm) := rfl
   have hY : decY ts x y iss now = { x with till := -1 } := by unfold decY; rw [if_neg hc7, hu]
   have hE : decE ts x y iss now = 3 := by unfold decE; rw [if_neg hc7, hu]; (repeat' split) <;> first | rfl | (exfalso; omega)
   exact leave0 (.tuple #[.agg (Rfm.cells ({ x with till := -1 })).toArray, .int .i64 3]) (.inl rfl) (res_agg_tmp (m := 45) rfl rfl rfl (by kernel_rfl) hb5_49 rfl) ⟨by rw [hY, hE] <;> rfl, hK0⟩
  refine V_skip ?_
  refine X_block ?_
  refine X_then ?_
  refine Vr ?_
  refine Oa 57 (.tmp 6) 0 (Rfm.cells { x with till := -1 }) (some 76) 45 hb1_43 (take_all (Rfm.len _)) (Rfm.len _) ?_
  refine OI_set (m := 45) (kd := true) 57 (.tmp 10) (.tmp 76) 0 (.agg (Rfm.cells { x with till := -1 }).toArray) (Rfm.cells { x with till := -1 }) none (by kernel_rfl) (by kernel_rfl) (by kernel_rfl) hb5 (by kernel_rfl) rfl (Rfm.len _) (Nat.le_of_ble_eq_true (by kernel_rfl)) (Rfm.one _) ?_
  intro w51 hb5_54 hk52 hz53
  replace hb5_54 : Blk w51 b5 (Rfm.cells ({ x with till := -1 })) 57 := (Blk.eqL (Rfm.over _ _) hb5_54)
  have hsz55 := Keep.size hk52
  replace hr := hr.keep hk52 (by show ¬ (_ = _); omega)
  replace hb1_43 := hb1_43.keep hk52 (by show ¬ (_ = _); omega)
  replace hb3 := hb3.keep hk52 (by show ¬ (_ = _); omega)
  replace hb25_34 := hb25_34.keep hk52 (by show ¬ (_ = _); omega)
  replace hat28 := hat28.keep hk52 (by show ¬ (_ = _); omega)
  replace hR := Rfr.keep hR hk52 (fun q hq hs => by have hs : q = b5 := hs; have g0 := hHo q hq; have g1 := hHlt q hq; omega)
  replace hK0 := Keep.fresh hK0 hk52 (by intro i hi hs; first | exact hs | exact Or.inl hs | exact Or.inr hs | (exfalso; have hs2 : i = b5 := hs; omega))
  refine Os 3 [(10, pt b5), (11, nt 0)] ?_
  refine Oe ?_
  refine V_ret ?_
  have hu : tillI ts x y iss now = -1 := by unfold tillI; rw [if_pos (by simpa using hc39)]
  have hw1 : w64 (now - x.since) = IntKind.i64.wrap (now - x.since) := rfl
  have hw2 : w64 (now + (trkA ts x.track).confirm) = IntKind.i64.wrap (now + (trkA ts x.track).confirm) := rfl
  have hY : decY ts x y iss now = { x with till := -1 } := by unfold decY; rw [if_neg hc7, hu]
  have hE : decE ts x y iss now = 0 := by unfold decE; rw [if_neg hc7, hu]; (repeat' split) <;> first | rfl | (exfalso; omega)
  exact leave0 (.tuple #[.agg (Rfm.cells ({ x with till := -1 })).toArray, .int .i64 0]) (.inl rfl) (res_agg_tmp (m := 45) rfl rfl rfl (by kernel_rfl) hb5_54 rfl) ⟨by rw [hY, hE] <;> rfl, hK0⟩
 refine Vr ?_
 refine Os 1 [(4, nt now), (6, pt b1), (10, pt b5), (12, pt b25), (43, .pointer (some ⟨b1, 40, none⟩))] ?_
 refine Oc 3 (.tmp 43) 40 (nt x.till) (some 44) hb1 rfl ?_
 refine Os 4 [(4, nt now), (6, pt b1), (10, pt b5), (12, pt b25), (42, .bool (decide (x.till = -1)))] ?_
 refine Oe ?_
 refine V_if (x.till = -1) (by kernel_rfl) (fun hc56 => ?_) (fun hc56 => ?_)
 ·
  refine V_region ?_
  refine Os 2 [(4, nt now), (6, pt b1), (10, pt b5), (12, pt b25), (46, nt now), (47, .pointer (some ⟨b25, 4, none⟩))] ?_
  refine Oc 3 (.tmp 47) 4 (nt ((trkA ts x.track).confirm)) (some 48) hb25_34 rfl ?_
  refine Os 5 [(4, nt now), (6, pt b1), (10, pt b5), (12, pt b25), (49, nt (IntKind.i64.wrap (now + ((trkA ts x.track).confirm)))), (50, .pointer (some ⟨b1, 40, none⟩))] ?_
  refine OI_set (m := 1) (kd := false) 3 (.tmp 50) (.tmp 49) 40 (nt (IntKind.i64.wrap (now + ((trkA ts x.track).confirm)))) [nt (IntKind.i64.wrap (now + ((trkA ts x.track).confirm)))] none (by kernel_rfl) (by kernel_rfl) (by kernel_rfl) hb1 (by kernel_rfl) (by kernel_rfl) (by kernel_rfl) (Nat.le_of_ble_eq_true (by kernel_rfl)) (by simp [Value.oneCell']) ?_
  intro w57 hb1_60 hk58 hz59
  replace hb1_60 : Blk w57 b1 (Rfm.cells { x with till := IntKind.i64.wrap (now + ((trkA ts x.track).confirm)) }) 57 := (Blk.eqL (by kernel_rfl) hb1_60)
  have hsz61 := Keep.size hk58
  replace hr := hr.keep hk58 (by show ¬ (_ = _); omega)
  replace hb3 := hb3.keep hk58 (by show ¬ (_ = _); omega)
  replace hb5 := hb5.keep hk58 (by show ¬ (_ = _); omega)
  replace hb25_34 := hb25_34.keep hk58 (by show ¬ (_ = _); omega)
  replace hat28 := hat28.keep hk58 (by show ¬ (_ = _); omega)
  replace hR := Rfr.keep hR hk58 (fun q hq hs => by have hs : q = b1 := hs; have g0 := hHo q hq; have g1 := hHlt q hq; omega)
  replace hK0 := Keep.fresh hK0 hk58 (by intro i hi hs; first | exact hs | exact Or.inl hs | exact Or.inr hs | (exfalso; have hs2 : i = b1 := hs; omega))
  refine OI_end rfl ?_
  refine X_block ?_
  refine X_then ?_
  refine V_seq ?_
  refine V_block ?_
  refine Vr ?_
  refine Os 1 [(4, nt now), (6, pt b1), (10, pt b5), (12, pt b25), (52, .pointer (some ⟨b1, 40, none⟩))] ?_
  refine Oc 3 (.tmp 52) 40 (nt (IntKind.i64.wrap (now + ((trkA ts x.track).confirm)))) (some 53) hb1_60 rfl ?_
  refine Os 4 [(4, nt now), (6, pt b1), (10, pt b5), (12, pt b25), (55, .bool (!(decide (IntKind.i64.wrap (now + ((trkA ts x.track).confirm)) = -1))))] ?_
  by_cases hg62 : IntKind.i64.wrap (now + ((trkA ts x.track).confirm)) = -1
  ·
   refine OI_eq [(4, nt now), (6, pt b1), (10, pt b5), (12, pt b25), (55, .bool false)] (by first | simp [hg62] | rfl) ?_
   refine Os 10 [(4, nt now), (6, pt b1), (10, pt b5), (12, pt b25), (51, .bool false)] ?_
   refine Oe ?_
   refine V_false rfl ?_
   refine Vr ?_
   refine Os 1 [(4, nt now), (6, pt b1), (10, pt b5), (12, pt b25), (63, .pointer (some ⟨b1, 40, none⟩))] ?_
   refine Oc 3 (.tmp 63) 40 (nt (IntKind.i64.wrap (now + ((trkA ts x.track).confirm)))) (some 64) hb1_60 rfl ?_
   refine Os 4 [(4, nt now), (6, pt b1), (10, pt b5), (12, pt b25), (66, .bool (decide (IntKind.i64.wrap (now + ((trkA ts x.track).confirm)) = -1)))] ?_
   refine OI_eq [(4, nt now), (6, pt b1), (10, pt b5), (12, pt b25), (66, .bool true)] (by rw [decide_eq_true hg62]) ?_
   refine Os 6 [(6, pt b1), (10, pt b5), (12, pt b25), (66, .bool true), (67, nt now), (68, .pointer (some ⟨b1, 39, none⟩))] ?_
   refine Oc 3 (.tmp 68) 39 (nt x.since) (some 69) hb1_60 rfl ?_
   refine Os 9 [(6, pt b1), (10, pt b5), (66, .bool true), (70, nt (IntKind.i64.wrap (now - x.since))), (71, .pointer (some ⟨b25, 3, none⟩))] ?_
   refine Oc 3 (.tmp 71) 3 (nt ((trkA ts x.track).decision)) (some 72) hb25_34 rfl ?_
   refine Os 13 [(6, pt b1), (10, pt b5), (62, .bool (decide (IntKind.i64.wrap (now - x.since) ≥ (trkA ts x.track).decision)))] ?_
   refine Oe ?_
   refine V_if (IntKind.i64.wrap (now - x.since) ≥ (trkA ts x.track).decision) (by kernel_rfl) (fun hc64 => ?_) (fun hc64 => ?_)
   ·
    refine Vr ?_
    refine Oa 57 (.tmp 6) 0 (Rfm.cells { x with till := IntKind.i64.wrap (now + ((trkA ts x.track).confirm)) }) (some 75) 45 hb1_60 (take_all (Rfm.len _)) (Rfm.len _) ?_
    refine OI_set (m := 45) (kd := true) 57 (.tmp 10) (.tmp 75) 0 (.agg (Rfm.cells { x with till := IntKind.i64.wrap (now + ((trkA ts x.track).confirm)) }).toArray) (Rfm.cells { x with till := IntKind.i64.wrap (now + ((trkA ts x.track).confirm)) }) none (by kernel_rfl) (by kernel_rfl) (by kernel_rfl) hb5 (by kernel_rfl) rfl (Rfm.len _) (Nat.le_of_ble_eq_true (by kernel_rfl)) (Rfm.one _) ?_
    intro w65 hb5_68 hk66 hz67
    replace hb5_68 : Blk w65 b5 (Rfm.cells ({ x with till := IntKind.i64.wrap (now + ((trkA ts x.track).confirm)) })) 57 := (Blk.eqL (Rfm.over _ _) hb5_68)
    have hsz69 := Keep.size hk66
    replace hr := hr.keep hk66 (by show ¬ (_ = _); omega)
    replace hb1_60 := hb1_60.keep hk66 (by show ¬ (_ = _); omega)
    replace hb3 := hb3.keep hk66 (by show ¬ (_ = _); omega)
    replace hb25_34 := hb25_34.keep hk66 (by show ¬ (_ = _); omega)
    replace hat28 := hat28.keep hk66 (by show ¬ (_ = _); omega)
    replace hR := Rfr.keep hR hk66 (fun q hq hs => by have hs : q = b5 := hs; have g0 := hHo q hq; have g1 := hHlt q hq; omega)
    replace hK0 := Keep.fresh hK0 hk66 (by intro i hi hs; first | exact hs | exact Or.inl hs | exact Or.inr hs | (exfalso; have hs2 : i = b5 := hs; omega))
    refine Os 3 [(10, pt b5), (11, nt 3)] ?_
    refine Oe ?_
    refine V_ret ?_
    refine X_ret_block ?_
    refine X_ret_then ?_
    have hpb : ¬ passB (trkA ts x.track) y iss (w64 (now - x.since)) = false := by simpa using hc39
    have hu : tillI ts x y iss now = w64 (now + (trkA ts x.track).confirm) := by unfold tillI; rw [if_neg hpb, if_pos hc56]
    have hw1 : w64 (now - x.since) = IntKind.i64.wrap (now - x.since) := rfl
    have hw2 : w64 (now + (trkA ts x.track).confirm) = IntKind.i64.wrap (now + (trkA ts x.track).confirm) := rfl
    have hY : decY ts x y iss now = { x with till := w64 (now + (trkA ts x.track).confirm) } := by unfold decY; rw [if_neg hc7, hu]
    have hE : decE ts x y iss now = 3 := by unfold decE; rw [if_neg hc7, hu]; (repeat' split) <;> first | rfl | (exfalso; omega)
    exact leave0 (.tuple #[.agg (Rfm.cells ({ x with till := IntKind.i64.wrap (now + ((trkA ts x.track).confirm)) })).toArray, .int .i64 3]) (.inl rfl) (res_agg_tmp (m := 45) rfl rfl rfl (by kernel_rfl) hb5_68 rfl) ⟨by rw [hY, hE] <;> rfl, hK0⟩
   refine V_skip ?_
   refine X_block ?_
   refine X_then ?_
   refine Vr ?_
   refine Oa 57 (.tmp 6) 0 (Rfm.cells { x with till := IntKind.i64.wrap (now + ((trkA ts x.track).confirm)) }) (some 76) 45 hb1_60 (take_all (Rfm.len _)) (Rfm.len _) ?_
   refine OI_set (m := 45) (kd := true) 57 (.tmp 10) (.tmp 76) 0 (.agg (Rfm.cells { x with till := IntKind.i64.wrap (now + ((trkA ts x.track).confirm)) }).toArray) (Rfm.cells { x with till := IntKind.i64.wrap (now + ((trkA ts x.track).confirm)) }) none (by kernel_rfl) (by kernel_rfl) (by kernel_rfl) hb5 (by kernel_rfl) rfl (Rfm.len _) (Nat.le_of_ble_eq_true (by kernel_rfl)) (Rfm.one _) ?_
   intro w70 hb5_73 hk71 hz72
   replace hb5_73 : Blk w70 b5 (Rfm.cells ({ x with till := IntKind.i64.wrap (now + ((trkA ts x.track).confirm)) })) 57 := (Blk.eqL (Rfm.over _ _) hb5_73)
   have hsz74 := Keep.size hk71
   replace hr := hr.keep hk71 (by show ¬ (_ = _); omega)
   replace hb1_60 := hb1_60.keep hk71 (by show ¬ (_ = _); omega)
   replace hb3 := hb3.keep hk71 (by show ¬ (_ = _); omega)
   replace hb25_34 := hb25_34.keep hk71 (by show ¬ (_ = _); omega)
   replace hat28 := hat28.keep hk71 (by show ¬ (_ = _); omega)
   replace hR := Rfr.keep hR hk71 (fun q hq hs => by have hs : q = b5 := hs; have g0 := hHo q hq; have g1 := hHlt q hq; omega)
   replace hK0 := Keep.fresh hK0 hk71 (by intro i hi hs; first | exact hs | exact Or.inl hs | exact Or.inr hs | (exfalso; have hs2 : i = b5 := hs; omega))
   refine Os 3 [(10, pt b5), (11, nt 0)] ?_
   refine Oe ?_
   refine V_ret ?_
   have hpb : ¬ passB (trkA ts x.track) y iss (w64 (now - x.since)) = false := by simpa using hc39
   have hu : tillI ts x y iss now = w64 (now + (trkA ts x.track).confirm) := by unfold tillI; rw [if_neg hpb, if_pos hc56]
   have hw1 : w64 (now - x.since) = IntKind.i64.wrap (now - x.since) := rfl
   have hw2 : w64 (now + (trkA ts x.track).confirm) = IntKind.i64.wrap (now + (trkA ts x.track).confirm) := rfl
   have hY : decY ts x y iss now = { x with till := w64 (now + (trkA ts x.track).confirm) } := by unfold decY; rw [if_neg hc7, hu]
   have hE : decE ts x y iss now = 0 := by unfold decE; rw [if_neg hc7, hu]; (repeat' split) <;> first | rfl | (exfalso; omega)
   exact leave0 (.tuple #[.agg (Rfm.cells ({ x with till := IntKind.i64.wrap (now + ((trkA ts x.track).confirm)) })).toArray, .int .i64 0]) (.inl rfl) (res_agg_tmp (m := 45) rfl rfl rfl (by kernel_rfl) hb5_73 rfl) ⟨by rw [hY, hE] <;> rfl, hK0⟩
  refine OI_eq [(4, nt now), (6, pt b1), (10, pt b5), (12, pt b25), (55, .bool true)] (by first | simp [hg62] | rfl) ?_
  refine Os 5 [(4, nt now), (6, pt b1), (10, pt b5), (12, pt b25), (55, .bool true), (56, .pointer (some ⟨b1, 40, none⟩))] ?_
  refine Oc 3 (.tmp 56) 40 (nt (IntKind.i64.wrap (now + ((trkA ts x.track).confirm)))) (some 57) hb1_60 rfl ?_
  refine Os 10 [(4, nt now), (6, pt b1), (10, pt b5), (12, pt b25), (51, .bool (decide (IntKind.i64.wrap (now + ((trkA ts x.track).confirm)) ≤ now)))] ?_
  refine Oe ?_
  refine V_if (IntKind.i64.wrap (now + ((trkA ts x.track).confirm)) ≤ now) (by kernel_rfl) (fun hc75 => ?_) (fun hc75 => ?_)
  ·
   refine Vr ?_
   refine Oa 57 (.tmp 6) 0 (Rfm.cells { x with till := IntKind.i64.wrap (now + ((trkA ts x.track).confirm)) }) (some 61) 45 hb1_60 (take_all (Rfm.len _)) (Rfm.len _) ?_
   refine OI_set (m := 45) (kd := true) 57 (.tmp 10) (.tmp 61) 0 (.agg (Rfm.cells { x with till := IntKind.i64.wrap (now + ((trkA ts x.track).confirm)) }).toArray) (Rfm.cells { x with till := IntKind.i64.wrap (now + ((trkA ts x.track).confirm)) }) none (by kernel_rfl) (by kernel_rfl) (by kernel_rfl) hb5 (by kernel_rfl) rfl (Rfm.len _) (Nat.le_of_ble_eq_true (by kernel_rfl)) (Rfm.one _) ?_
   intro w76 hb5_79 hk77 hz78
   replace hb5_79 : Blk w76 b5 (Rfm.cells ({ x with till := IntKind.i64.wrap (now + ((trkA ts x.track).confirm)) })) 57 := (Blk.eqL (Rfm.over _ _) hb5_79)
   have hsz80 := Keep.size hk77
   replace hr := hr.keep hk77 (by show ¬ (_ = _); omega)
   replace hb1_60 := hb1_60.keep hk77 (by show ¬ (_ = _); omega)
   replace hb3 := hb3.keep hk77 (by show ¬ (_ = _); omega)
   replace hb25_34 := hb25_34.keep hk77 (by show ¬ (_ = _); omega)
   replace hat28 := hat28.keep hk77 (by show ¬ (_ = _); omega)
   replace hR := Rfr.keep hR hk77 (fun q hq hs => by have hs : q = b5 := hs; have g0 := hHo q hq; have g1 := hHlt q hq; omega)
   replace hK0 := Keep.fresh hK0 hk77 (by intro i hi hs; first | exact hs | exact Or.inl hs | exact Or.inr hs | (exfalso; have hs2 : i = b5 := hs; omega))
   refine Os 3 [(10, pt b5), (11, nt 2)] ?_
   refine Oe ?_
   refine V_ret ?_
   refine X_ret_block ?_
   refine X_ret_then ?_
   have hpb : ¬ passB (trkA ts x.track) y iss (w64 (now - x.since)) = false := by simpa using hc39
   have hu : tillI ts x y iss now = w64 (now + (trkA ts x.track).confirm) := by unfold tillI; rw [if_neg hpb, if_pos hc56]
   have hw1 : w64 (now - x.since) = IntKind.i64.wrap (now - x.since) := rfl
   have hw2 : w64 (now + (trkA ts x.track).confirm) = IntKind.i64.wrap (now + (trkA ts x.track).confirm) := rfl
   have hY : decY ts x y iss now = { x with till := w64 (now + (trkA ts x.track).confirm) } := by unfold decY; rw [if_neg hc7, hu]
   have hE : decE ts x y iss now = 2 := by unfold decE; rw [if_neg hc7, hu]; (repeat' split) <;> first | rfl | (exfalso; omega)
   exact leave0 (.tuple #[.agg (Rfm.cells ({ x with till := IntKind.i64.wrap (now + ((trkA ts x.track).confirm)) })).toArray, .int .i64 2]) (.inl rfl) (res_agg_tmp (m := 45) rfl rfl rfl (by kernel_rfl) hb5_79 rfl) ⟨by rw [hY, hE] <;> rfl, hK0⟩
  refine Vr ?_
  refine Os 1 [(4, nt now), (6, pt b1), (10, pt b5), (12, pt b25), (63, .pointer (some ⟨b1, 40, none⟩))] ?_
  refine Oc 3 (.tmp 63) 40 (nt (IntKind.i64.wrap (now + ((trkA ts x.track).confirm)))) (some 64) hb1_60 rfl ?_
  refine Os 4 [(4, nt now), (6, pt b1), (10, pt b5), (12, pt b25), (66, .bool (decide (IntKind.i64.wrap (now + ((trkA ts x.track).confirm)) = -1)))] ?_
  refine OI_eq [(4, nt now), (6, pt b1), (10, pt b5), (12, pt b25), (66, .bool false)] (by rw [decide_eq_false hg62]) ?_
  refine Os 13 [(6, pt b1), (10, pt b5), (62, .bool false)] ?_
  refine Oe ?_
  refine V_false rfl ?_
  refine V_skip ?_
  refine X_block ?_
  refine X_then ?_
  refine Vr ?_
  refine Oa 57 (.tmp 6) 0 (Rfm.cells { x with till := IntKind.i64.wrap (now + ((trkA ts x.track).confirm)) }) (some 76) 45 hb1_60 (take_all (Rfm.len _)) (Rfm.len _) ?_
  refine OI_set (m := 45) (kd := true) 57 (.tmp 10) (.tmp 76) 0 (.agg (Rfm.cells { x with till := IntKind.i64.wrap (now + ((trkA ts x.track).confirm)) }).toArray) (Rfm.cells { x with till := IntKind.i64.wrap (now + ((trkA ts x.track).confirm)) }) none (by kernel_rfl) (by kernel_rfl) (by kernel_rfl) hb5 (by kernel_rfl) rfl (Rfm.len _) (Nat.le_of_ble_eq_true (by kernel_rfl)) (Rfm.one _) ?_
  intro w82 hb5_85 hk83 hz84
  replace hb5_85 : Blk w82 b5 (Rfm.cells ({ x with till := IntKind.i64.wrap (now + ((trkA ts x.track).confirm)) })) 57 := (Blk.eqL (Rfm.over _ _) hb5_85)
  have hsz86 := Keep.size hk83
  replace hr := hr.keep hk83 (by show ¬ (_ = _); omega)
  replace hb1_60 := hb1_60.keep hk83 (by show ¬ (_ = _); omega)
  replace hb3 := hb3.keep hk83 (by show ¬ (_ = _); omega)
  replace hb25_34 := hb25_34.keep hk83 (by show ¬ (_ = _); omega)
  replace hat28 := hat28.keep hk83 (by show ¬ (_ = _); omega)
  replace hR := Rfr.keep hR hk83 (fun q hq hs => by have hs : q = b5 := hs; have g0 := hHo q hq; have g1 := hHlt q hq; omega)
  replace hK0 := Keep.fresh hK0 hk83 (by intro i hi hs; first | exact hs | exact Or.inl hs | exact Or.inr hs | (exfalso; have hs2 : i = b5 := hs; omega))
  refine Os 3 [(10, pt b5), (11, nt 0)] ?_
  refine Oe ?_
  refine V_ret ?_
  have hpb : ¬ passB (trkA ts x.track) y iss (w64 (now - x.since)) = false := by simpa using hc39
  have hu : tillI ts x y iss now = w64 (now + (trkA ts x.track).confirm) := by unfold tillI; rw [if_neg hpb, if_pos hc56]
  have hw1 : w64 (now - x.since) = IntKind.i64.wrap (now - x.since) := rfl
  have hw2 : w64 (now + (trkA ts x.track).confirm) = IntKind.i64.wrap (now + (trkA ts x.track).confirm) := rfl
  have hY : decY ts x y iss now = { x with till := w64 (now + (trkA ts x.track).confirm) } := by unfold decY; rw [if_neg hc7, hu]
  have hE : decE ts x y iss now = 0 := by unfold decE; rw [if_neg hc7, hu]; (repeat' split) <;> first | rfl | (exfalso; omega)
  exact leave0 (.tuple #[.agg (Rfm.cells ({ x with till := IntKind.i64.wrap (now + ((trkA ts x.track).confirm)) })).toArray, .int .i64 0]) (.inl rfl) (res_agg_tmp (m := 45) rfl rfl rfl (by kernel_rfl) hb5_85 rfl) ⟨by rw [hY, hE] <;> rfl, hK0⟩
 refine V_skip ?_
 refine X_block ?_
 refine X_then ?_
 refine V_seq ?_
 refine V_block ?_
 refine Vr ?_
 refine Os 1 [(4, nt now), (6, pt b1), (10, pt b5), (12, pt b25), (52, .pointer (some ⟨b1, 40, none⟩))] ?_
 refine Oc 3 (.tmp 52) 40 (nt x.till) (some 53) hb1 rfl ?_
 refine Os 4 [(4, nt now), (6, pt b1), (10, pt b5), (12, pt b25), (55, .bool (!(decide (x.till = -1))))] ?_
 refine OI_eq [(4, nt now), (6, pt b1), (10, pt b5), (12, pt b25), (55, .bool true)] (by rw [decide_eq_false hc56]; rfl) ?_
 refine Os 5 [(4, nt now), (6, pt b1), (10, pt b5), (12, pt b25), (55, .bool true), (56, .pointer (some ⟨b1, 40, none⟩))] ?_
 refine Oc 3 (.tmp 56) 40 (nt x.till) (some 57) hb1 rfl ?_
 refine Os 10 [(4, nt now), (6, pt b1), (10, pt b5), (12, pt b25), (51, .bool (decide (x.till ≤ now)))] ?_
 refine Oe ?_
 refine V_if (x.till ≤ now) (by kernel_rfl) (fun hc88 => ?_) (fun hc88 => ?_)
 ·
  refine Vr ?_
  refine Oa 57 (.tmp 6) 0 (Rfm.cells x) (some 61) 45 hb1 (take_all (Rfm.len _)) (Rfm.len _) ?_
  refine OI_set (m := 45) (kd := true) 57 (.tmp 10) (.tmp 61) 0 (.agg (Rfm.cells x).toArray) (Rfm.cells x) none (by kernel_rfl) (by kernel_rfl) (by kernel_rfl) hb5 (by kernel_rfl) rfl (Rfm.len _) (Nat.le_of_ble_eq_true (by kernel_rfl)) (Rfm.one _) ?_
  intro w89 hb5_92 hk90 hz91
  replace hb5_92 : Blk w89 b5 (Rfm.cells x) 57 := (Blk.eqL (Rfm.over _ _) hb5_92)
  have hsz93 := Keep.size hk90
  replace hr := hr.keep hk90 (by show ¬ (_ = _); omega)
  replace hb1 := hb1.keep hk90 (by show ¬ (_ = _); omega)
  replace hb3 := hb3.keep hk90 (by show ¬ (_ = _); omega)
  replace hb25_34 := hb25_34.keep hk90 (by show ¬ (_ = _); omega)
  replace hat28 := hat28.keep hk90 (by show ¬ (_ = _); omega)
  replace hR := Rfr.keep hR hk90 (fun q hq hs => by have hs : q = b5 := hs; have g0 := hHo q hq; have g1 := hHlt q hq; omega)
  replace hK0 := Keep.fresh hK0 hk90 (by intro i hi hs; first | exact hs | exact Or.inl hs | exact Or.inr hs | (exfalso; have hs2 : i = b5 := hs; omega))
  refine Os 3 [(10, pt b5), (11, nt 2)] ?_
  refine Oe ?_
  refine V_ret ?_
  refine X_ret_block ?_
  refine X_ret_then ?_
  have hpb : ¬ passB (trkA ts x.track) y iss (w64 (now - x.since)) = false := by simpa using hc39
  have hu : tillI ts x y iss now = x.till := by unfold tillI; rw [if_neg hpb, if_neg hc56]
  have hw1 : w64 (now - x.since) = IntKind.i64.wrap (now - x.since) := rfl
  have hw2 : w64 (now + (trkA ts x.track).confirm) = IntKind.i64.wrap (now + (trkA ts x.track).confirm) := rfl
  have hY : decY ts x y iss now = { x with till := x.till } := by unfold decY; rw [if_neg hc7, hu]
  have hE : decE ts x y iss now = 2 := by unfold decE; rw [if_neg hc7, hu]; (repeat' split) <;> first | rfl | (exfalso; omega)
  exact leave0 (.tuple #[.agg (Rfm.cells x).toArray, .int .i64 2]) (.inl rfl) (res_agg_tmp (m := 45) rfl rfl rfl (by kernel_rfl) hb5_92 rfl) ⟨by rw [hY, hE] <;> rfl, hK0⟩
 refine Vr ?_
 refine Os 1 [(4, nt now), (6, pt b1), (10, pt b5), (12, pt b25), (63, .pointer (some ⟨b1, 40, none⟩))] ?_
 refine Oc 3 (.tmp 63) 40 (nt x.till) (some 64) hb1 rfl ?_
 refine Os 4 [(4, nt now), (6, pt b1), (10, pt b5), (12, pt b25), (66, .bool (decide (x.till = -1)))] ?_
 refine OI_eq [(4, nt now), (6, pt b1), (10, pt b5), (12, pt b25), (66, .bool false)] (by rw [decide_eq_false hc56]) ?_
 refine Os 13 [(6, pt b1), (10, pt b5), (62, .bool false)] ?_
 refine Oe ?_
 refine V_false rfl ?_
 refine V_skip ?_
 refine X_block ?_
 refine X_then ?_
 refine Vr ?_
 refine Oa 57 (.tmp 6) 0 (Rfm.cells x) (some 76) 45 hb1 (take_all (Rfm.len _)) (Rfm.len _) ?_
 refine OI_set (m := 45) (kd := true) 57 (.tmp 10) (.tmp 76) 0 (.agg (Rfm.cells x).toArray) (Rfm.cells x) none (by kernel_rfl) (by kernel_rfl) (by kernel_rfl) hb5 (by kernel_rfl) rfl (Rfm.len _) (Nat.le_of_ble_eq_true (by kernel_rfl)) (Rfm.one _) ?_
 intro w95 hb5_98 hk96 hz97
 replace hb5_98 : Blk w95 b5 (Rfm.cells x) 57 := (Blk.eqL (Rfm.over _ _) hb5_98)
 have hsz99 := Keep.size hk96
 replace hr := hr.keep hk96 (by show ¬ (_ = _); omega)
 replace hb1 := hb1.keep hk96 (by show ¬ (_ = _); omega)
 replace hb3 := hb3.keep hk96 (by show ¬ (_ = _); omega)
 replace hb25_34 := hb25_34.keep hk96 (by show ¬ (_ = _); omega)
 replace hat28 := hat28.keep hk96 (by show ¬ (_ = _); omega)
 replace hR := Rfr.keep hR hk96 (fun q hq hs => by have hs : q = b5 := hs; have g0 := hHo q hq; have g1 := hHlt q hq; omega)
 replace hK0 := Keep.fresh hK0 hk96 (by intro i hi hs; first | exact hs | exact Or.inl hs | exact Or.inr hs | (exfalso; have hs2 : i = b5 := hs; omega))
 refine Os 3 [(10, pt b5), (11, nt 0)] ?_
 refine Oe ?_
 refine V_ret ?_
 have hpb : ¬ passB (trkA ts x.track) y iss (w64 (now - x.since)) = false := by simpa using hc39
 have hu : tillI ts x y iss now = x.till := by unfold tillI; rw [if_neg hpb, if_neg hc56]
 have hw1 : w64 (now - x.since) = IntKind.i64.wrap (now - x.since) := rfl
 have hw2 : w64 (now + (trkA ts x.track).confirm) = IntKind.i64.wrap (now + (trkA ts x.track).confirm) := rfl
 have hY : decY ts x y iss now = { x with till := x.till } := by unfold decY; rw [if_neg hc7, hu]
 have hE : decE ts x y iss now = 0 := by unfold decE; rw [if_neg hc7, hu]; (repeat' split) <;> first | rfl | (exfalso; omega)
 exact leave0 (.tuple #[.agg (Rfm.cells x).toArray, .int .i64 0]) (.inl rfl) (res_agg_tmp (m := 45) rfl rfl rfl (by kernel_rfl) hb5_98 rfl) ⟨by rw [hY, hE] <;> rfl, hK0⟩
end Go.Al


namespace Go.Al
open Go Go.RowKit Go.Proofs
section
variable {xs : List Acc} {cs : List Ci} {s : VS} {ts : List Trk} {rs : List Rfm} {who of after ref now st : Int}
end

set_option maxRecDepth 10000 in
set_option maxHeartbeats 1000000 in
theorem ends_spec (H : Nat → Prop) (r g : Nat) (ts : List Trk) (rs : List Rfm) (F : Nat → Prop) (v : Nat) (s : VS) (ref st now : Int) (w : World) (hR : Rfr H w r g ts rs) (hV : VotT F w v s) (hHF : ∀ q, H q → ¬ F q) (hx : getR rs ref = some (getA rs ref)) : Calls Tryz.prog 52 #[.pointer (some ⟨r, 0, none⟩), .pointer (some ⟨v, 0, none⟩), .int .i64 ref, .int .i64 st, .int .i64 now] w fun e w' => e = .returned (.agg (Evt.mk 1 ref st).cells.toArray) ∧ (∃ H' F', Rfr H' w' r g ts (endR s rs ref st now) ∧ VotT F' w' v (closeS s ref st now) ∧ (∀ q, H' q → H q ∨ w.heap.size ≤ q) ∧ (∀ q, F' q → F q ∨ w.heap.size ≤ q) ∧ (∀ q, H' q → ¬ F' q)) ∧ Keep (fun q => q = g ∨ F q) w w' := by
 have hHlt := Rfr.lt hR
 have hrH := Rfr.at_ hR
 have hgH := Rfr.atg hR
 have hrlt := hHlt _ hrH
 have hglt := hHlt _ hgH
 have hin := Rfr.inn hR
 obtain ⟨A, cap, hr, hA, hAo, hrg⟩ := Rfr.parts hR
 have hAlt := SlT.lt hA
 have hAr : ∀ q, inA A q → q ≠ r ∧ q ≠ g ∧ q < w.heap.size := fun q hq => ⟨(hAo q hq).2.1, (hAo q hq).2.2, hAlt q hq⟩
 have hgo : ∀ q, only g q → q ≠ r ∧ q = g := fun q hq => ⟨fun e => hrg (e.symm.trans hq), hq⟩
 have hgl : ∀ q, only g q → q < w.heap.size := fun q hq => by rw [show q = g from hq]; exact hglt
 have hHo : ∀ q, H q → 0 ≤ q := fun q _ => Nat.zero_le q
 have htl := hin.tl
 have hrl := hin.rl
 have hFlt := VotT.lt hV
 have hvlt := hFlt _ (VotT.at_ hV)
 have hVr : ∀ q, F q → q ≠ r := fun q hq e => hHF r hrH (e ▸ hq)
 have hHr : ∀ q, H q → H q ∨ w.heap.size ≤ q := fun _ h => .inl h
 have hFr : ∀ q, F q → F q ∨ w.heap.size ≤ q := fun _ h => .inl h
 obtain ⟨href, htr, hrat⟩ := getA_at hin hx
 obtain ⟨jt, hjt, hjl, htk, htm⟩ := trkA_at htr
 have hokt := hin.tok _ htm
 have hdep : 0 ≤ (trkA ts (getA rs ref).track).deposit ∧ (trkA ts (getA rs ref).track).deposit ≤ 1073741824 := hokt.2.1
 have hK0 : Keep (fun q => q = g ∨ F q) w w := Keep.refl _ _
 have hzhK0 := Keep.size hK0
 refine enterM Tryz.func52 rfl [pt r, pt v, nt ref, nt st, nt now] 42 rfl rfl rfl ?_
 refine V_pick [(0, pt r), (1, pt v), (2, nt ref), (3, nt st), (4, nt now)] rfl ?_
 refine Vr ?_
 refine OI_alloc 53 (.agg #[nt 0, nt 0, nt 0]) [nt 0, nt 0, nt 0] (some 10) (by kernel_rfl) (by kernel_rfl) (by kernel_rfl) ?_
 intro b1 w1 e1 hb1 k1 z1
 have hsz2 := Keep.size k1
 replace hr := hr.keep k1 (fun f => f)
 replace hA := SlT.keep0 hA k1
 replace hR := Rfr.keep hR k1 (fun _ _ f => f)
 replace hV := VotT.keep hV k1 (fun _ _ f => f)
 replace hK0 := Keep.tr hK0 (Keep.ofNone k1)
 have hb1lt := hb1.lt
 refine Oer ?_
 refine Os 2 [(0, pt r), (1, pt v), (2, nt ref), (3, nt st), (4, nt now), (10, pt b1), (14, pt r), (15, nt ref)] ?_
 refine Ok { callee := (Callee.value (Operand.func 23)), args := #[(Operand.tmp 14), (Operand.tmp 15)], argTypes := #[34, 3] } 23 #[pt r, nt ref] (some 16) (rget_spec H r g ts rs ref _ hR) ?_
 rintro _ w3 ⟨rfl, hk4⟩
 refine ⟨_, rfl, ?_⟩
 have hsz5 := Keep.size hk4
 replace hr := hr.keep hk4 (fun f => f)
 replace hb1 := hb1.keep hk4 (fun f => f)
 replace hA := SlT.keep0 hA hk4
 replace hR := Rfr.keep hR hk4 (fun _ _ f => f)
 replace hV := VotT.keep hV hk4 (fun _ _ f => f)
 replace hK0 := Keep.tr hK0 (Keep.ofNone hk4)
 refine Os 6 [(0, pt r), (1, pt v), (2, nt ref), (3, nt st), (4, nt now), (10, pt b1), (17, .agg (Rfm.cells (getA rs ref)).toArray), (18, .bool ((getR rs ref).isSome))] ?_
 refine OI_alloc 57 (.agg (Rfm.cells Rfm.zero).toArray) (Rfm.cells Rfm.zero) (some 11) (by kernel_rfl) (by kernel_rfl) (by kernel_rfl) ?_
 intro b6 w6 e6 hb6 k6 z6
 have hsz7 := Keep.size k6
 replace hr := hr.keep k6 (fun f => f)
 replace hb1 := hb1.keep k6 (fun f => f)
 replace hA := SlT.keep0 hA k6
 replace hR := Rfr.keep hR k6 (fun _ _ f => f)
 replace hV := VotT.keep hV k6 (fun _ _ f => f)
 replace hK0 := Keep.tr hK0 (Keep.ofNone k6)
 have hb6lt := hb6.lt
 refine OI_set (m := 45) (kd := true) 57 (.tmp 11) (.tmp 17) 0 (.agg (Rfm.cells (getA rs ref)).toArray) (Rfm.cells (getA rs ref)) none (by kernel_rfl) (by kernel_rfl) (by kernel_rfl) hb6 (by kernel_rfl) rfl (Rfm.len _) (Nat.le_of_ble_eq_true (by kernel_rfl)) (Rfm.one _) ?_
 intro w8 hb6_11 hk9 hz10
 replace hb6_11 : Blk w8 b6 (Rfm.cells (getA rs ref)) 57 := (Blk.eqL (Rfm.over _ _) hb6_11)
 have hsz12 := Keep.size hk9
 replace hr := hr.keep hk9 (by show ¬ (_ = _); omega)
 replace hb1 := hb1.keep hk9 (by show ¬ (_ = _); omega)
 replace hA := SlT.keep hA hk9 (fun q hq hs => by have hs : q = b6 := hs; have g0 := hAr q hq; have g1 := hAlt q hq; omega)
 replace hR := Rfr.keep hR hk9 (fun q hq hs => by have hs : q = b6 := hs; have g0 := hHo q hq; have g1 := hHlt q hq; omega)
 replace hV := VotT.keep hV hk9 (fun q hq hs => by have hs : q = b6 := hs; have g0 := hVr q hq; have g1 := hFlt q hq; omega)
 replace hK0 := Keep.fresh hK0 hk9 (by intro i hi hs; first | exact hs | exact Or.inl hs | exact Or.inr hs | (exfalso; have hs2 : i = b6 := hs; omega))
 refine Os 9 [(0, pt r), (1, pt v), (2, nt ref), (3, nt st), (4, nt now), (10, pt b1), (11, pt b6)] ?_
 refine Oer ?_
 refine Os 4 [(0, pt r), (1, pt v), (2, nt ref), (3, nt st), (4, nt now), (10, pt b1), (11, pt b6), (19, nt st), (20, nt now), (21, pt v), (22, nt ref)] ?_
 refine Ok { callee := (Callee.value (Operand.func 32)), args := #[(Operand.tmp 21), (Operand.tmp 22)], argTypes := #[33, 3] } 32 #[pt v, nt ref] (some 23) (tally_spec F v s ref _ (hV).1) ?_
 rintro _ w13 ⟨rfl, hk14⟩
 refine ⟨_, rfl, ?_⟩
 have hsz15 := Keep.size hk14
 replace hr := hr.keep hk14 (fun f => f)
 replace hb1 := hb1.keep hk14 (fun f => f)
 replace hb6_11 := hb6_11.keep hk14 (fun f => f)
 replace hA := SlT.keep0 hA hk14
 replace hR := Rfr.keep hR hk14 (fun _ _ f => f)
 replace hV := VotT.keep hV hk14 (fun _ _ f => f)
 replace hK0 := Keep.tr hK0 (Keep.ofNone hk14)
 refine Os 6 [(0, pt r), (1, pt v), (2, nt ref), (3, nt st), (4, nt now), (10, pt b1), (11, pt b6), (19, nt st), (20, nt now), (23, .agg (Tly.cells (tallyT s ref)).toArray), (24, pt b6)] ?_
 refine OI_set (m := 1) (kd := false) 3 (.tmp 24) (.tmp 19) 0 (nt st) [nt st] none (by kernel_rfl) (by kernel_rfl) (by kernel_rfl) hb6_11 (by kernel_rfl) (by kernel_rfl) (by kernel_rfl) (Nat.le_of_ble_eq_true (by kernel_rfl)) (by simp [Value.oneCell']) ?_
 intro w16 hb6_19 hk17 hz18
 replace hb6_19 : Blk w16 b6 (Rfm.cells { (getA rs ref) with state := st }) 57 := (Blk.eqL (by kernel_rfl) hb6_19)
 have hsz20 := Keep.size hk17
 replace hr := hr.keep hk17 (by show ¬ (_ = _); omega)
 replace hb1 := hb1.keep hk17 (by show ¬ (_ = _); omega)
 replace hA := SlT.keep hA hk17 (fun q hq hs => by have hs : q = b6 := hs; have g0 := hAr q hq; have g1 := hAlt q hq; omega)
 replace hR := Rfr.keep hR hk17 (fun q hq hs => by have hs : q = b6 := hs; have g0 := hHo q hq; have g1 := hHlt q hq; omega)
 replace hV := VotT.keep hV hk17 (fun q hq hs => by have hs : q = b6 := hs; have g0 := hVr q hq; have g1 := hFlt q hq; omega)
 replace hK0 := Keep.fresh hK0 hk17 (by intro i hi hs; first | exact hs | exact Or.inl hs | exact Or.inr hs | (exfalso; have hs2 : i = b6 := hs; omega))
 refine Os 8 [(0, pt r), (1, pt v), (2, nt ref), (3, nt st), (4, nt now), (10, pt b1), (11, pt b6), (20, nt now), (23, .agg (Tly.cells (tallyT s ref)).toArray), (25, .pointer (some ⟨b6, 41, none⟩))] ?_
 refine OI_set (m := 1) (kd := false) 3 (.tmp 25) (.tmp 20) 41 (nt now) [nt now] none (by kernel_rfl) (by kernel_rfl) (by kernel_rfl) hb6_19 (by kernel_rfl) (by kernel_rfl) (by kernel_rfl) (Nat.le_of_ble_eq_true (by kernel_rfl)) (by simp [Value.oneCell']) ?_
 intro w21 hb6_24 hk22 hz23
 replace hb6_24 : Blk w21 b6 (Rfm.cells { (getA rs ref) with state := st, stop := now }) 57 := (Blk.eqL (by kernel_rfl) hb6_24)
 have hsz25 := Keep.size hk22
 replace hr := hr.keep hk22 (by show ¬ (_ = _); omega)
 replace hb1 := hb1.keep hk22 (by show ¬ (_ = _); omega)
 replace hA := SlT.keep hA hk22 (fun q hq hs => by have hs : q = b6 := hs; have g0 := hAr q hq; have g1 := hAlt q hq; omega)
 replace hR := Rfr.keep hR hk22 (fun q hq hs => by have hs : q = b6 := hs; have g0 := hHo q hq; have g1 := hHlt q hq; omega)
 replace hV := VotT.keep hV hk22 (fun q hq hs => by have hs : q = b6 := hs; have g0 := hVr q hq; have g1 := hFlt q hq; omega)
 replace hK0 := Keep.fresh hK0 hk22 (by intro i hi hs; first | exact hs | exact Or.inl hs | exact Or.inr hs | (exfalso; have hs2 : i = b6 := hs; omega))
 refine Os 10 [(0, pt r), (1, pt v), (2, nt ref), (3, nt st), (4, nt now), (10, pt b1), (11, pt b6), (23, .agg (Tly.cells (tallyT s ref)).toArray), (26, .pointer (some ⟨b6, 42, none⟩))] ?_
 refine OI_set (m := 3) (kd := true) 55 (.tmp 26) (.tmp 23) 42 (.agg (Tly.cells (tallyT s ref)).toArray) (Tly.cells (tallyT s ref)) none (by kernel_rfl) (by kernel_rfl) (by kernel_rfl) hb6_24 (by kernel_rfl) rfl (Tly.len _) (Nat.le_of_ble_eq_true (by kernel_rfl)) (Tly.one _) ?_
 intro w26 hb6_29 hk27 hz28
 replace hb6_29 : Blk w26 b6 (Rfm.cells { (getA rs ref) with state := st, stop := now, t := (tallyT s ref) }) 57 := (Blk.eqL (by kernel_rfl) hb6_29)
 have hsz30 := Keep.size hk27
 replace hr := hr.keep hk27 (by show ¬ (_ = _); omega)
 replace hb1 := hb1.keep hk27 (by show ¬ (_ = _); omega)
 replace hA := SlT.keep hA hk27 (fun q hq hs => by have hs : q = b6 := hs; have g0 := hAr q hq; have g1 := hAlt q hq; omega)
 replace hR := Rfr.keep hR hk27 (fun q hq hs => by have hs : q = b6 := hs; have g0 := hHo q hq; have g1 := hHlt q hq; omega)
 replace hV := VotT.keep hV hk27 (fun q hq hs => by have hs : q = b6 := hs; have g0 := hVr q hq; have g1 := hFlt q hq; omega)
 replace hK0 := Keep.fresh hK0 hk27 (by intro i hi hs; first | exact hs | exact Or.inl hs | exact Or.inr hs | (exfalso; have hs2 : i = b6 := hs; omega))
 refine Oe ?_
 refine V_seq ?_
 refine V_draws (acts [6]) none_ [[0, 1, 2, 3, 4, 5, 6]] (by kernel_rfl) (by repeat first | exact (by first | exact sure_postM | exact sure_rQ2 | exact sure_no) | refine sure_then ?_ | refine sure_block ?_ | refine sure_join ?_) (by kernel_rfl) ?_
 intro w32 hk31 he33 L hL34
 have hsz35 := Keep.size hk31
 replace hr := hr.keep hk31 (fun f => f)
 replace hb1 := hb1.keep hk31 (fun f => f)
 replace hb6_29 := hb6_29.keep hk31 (fun f => f)
 replace hA := SlT.keep0 hA hk31
 replace hR := Rfr.keep hR hk31 (fun _ _ f => f)
 replace hV := VotT.keep hV hk31 (fun _ _ f => f)
 replace hK0 := Keep.tr hK0 (Keep.ofNone hk31)
 have qhr := hr
 have qhb1 := hb1
 have qhb6_29 := hb6_29
 have K36 : Keep none_ w32 w32 := Keep.refl _ _
 obtain rfl := List.mem_singleton.1 hL34
 refine Gs [3, 4, 5, 6] [(1, pt v), (2, nt ref), (3, nt st), (4, nt now), (10, pt b1), (11, pt b6), (29, .pointer (some ⟨r, 1, none⟩))] ?_
 refine Gc0 95 (.tmp 29) 1 (pt g) (some 30) qhr rfl ?_
 refine Gs [5, 6] [(1, pt v), (2, nt ref), (3, nt st), (4, nt now), (10, pt b1), (11, pt b6), (30, pt g), (31, nt ref)] ?_
 refine Ga 57 (.tmp 11) 0 (Rfm.cells { (getA rs ref) with state := st, stop := now, t := (tallyT s ref) }) (some 32) 45 qhb6_29 (fun f => f) (take_all (Rfm.len _)) (Rfm.len _) ?_
 refine GI_final 6 (by kernel_rfl) (by kernel_rfl) ?_
 refine Ok { callee := (Callee.value (Operand.func 45)), args := #[(Operand.tmp 30), (Operand.const (Value.int IntKind.i64 0)), (Operand.tmp 31), (Operand.tmp 32)], argTypes := #[95, 3, 3, 57] } 45 #[pt g, nt 0, nt ref, .agg (Rfm.cells { (getA rs ref) with state := st, stop := now, t := (tallyT s ref) }).toArray] (some 33) (rset_spec H r g ts rs ref ({ (getA rs ref) with state := st, stop := now, t := (tallyT s ref) }) _ hR href htr) ?_
 rintro _ w39 ⟨rfl, ⟨H41, hR42, hfr43⟩, hk40⟩
 refine ⟨_, rfl, ?_⟩
 have hsz44 := Keep.size hk40
 replace hr := hr.keep hk40 (fun hs => by have h1 := hgo _ hs; have h2 := hgl _ hs; omega)
 replace hb1 := hb1.keep hk40 (fun hs => by have h1 := hgo _ hs; have h2 := hgl _ hs; omega)
 replace hb6_29 := hb6_29.keep hk40 (fun hs => by have h1 := hgo _ hs; have h2 := hgl _ hs; omega)
 replace hA := SlT.keep hA hk40 (fun q hq hs => (fun q h1 h2 => (hAo q h2).2.2 h1) q hs hq)
 replace hV := VotT.keep hV hk40 (fun q hq hs => (fun q h1 h2 => hHF q (by rw [show q = g from h1]; exact hgH) h2) q hs hq)
 replace hK0 := Keep.fresh hK0 hk40 (by intro i hi hs; first | exact hs | (exfalso; have h1 := hgo i hs; have h2 := hgl i hs; omega) | (have h1 := hgo i hs; have h2 := hgl i hs; show _ ∨ _; omega))
 have own46 : ∀ q, H41 q → 0 ≤ q ∧ q ≠ b1 ∧ q ≠ b6 := fun q hq => by rcases hfr43 q hq with h | h; (have h1 := hHo q h; have h2 := hHlt q h; omega); omega
 have lt45 := Rfr.lt hR42
 have rel47 : ∀ q, H41 q → H q ∨ w.heap.size ≤ q := fun q hq => by rcases hfr43 q hq with h | h; exact hHr q h; exact .inr (by omega)
 have dis48 : ∀ q, H41 q → ¬ F q := fun q h1 h2 => by rcases hfr43 q h1 with h | h; exact hHF q h h2; (have h4 := hFlt q h2; omega)
 refine Oer ?_
 refine Os 4 [(2, nt ref), (3, nt st), (10, pt b1), (34, pt v), (35, nt ref), (36, nt st), (37, nt now)] ?_
 refine Ok { callee := (Callee.value (Operand.func 42)), args := #[(Operand.tmp 34), (Operand.tmp 35), (Operand.tmp 36), (Operand.tmp 37)], argTypes := #[33, 3, 3, 3] } 42 #[pt v, nt ref, nt st, nt now] (some 38) (close_specT F v s ref st now _ hV) ?_
 rintro _ w51 ⟨rfl, ⟨F53, ho54, hfr55⟩, hk52⟩
 refine ⟨_, rfl, ?_⟩
 have hsz56 := Keep.size hk52
 replace hr := hr.keep hk52 (fun hs => by have h1 := hVr _ hs; have h2 := hFlt _ hs; omega)
 replace hb1 := hb1.keep hk52 (fun hs => by have h1 := hVr _ hs; have h2 := hFlt _ hs; omega)
 replace hb6_29 := hb6_29.keep hk52 (fun hs => by have h1 := hVr _ hs; have h2 := hFlt _ hs; omega)
 replace hA := SlT.keep hA hk52 (fun q hq hs => (fun q h1 h2 => hHF q (hAo q h2).1 h1) q hs hq)
 replace hK0 := Keep.fresh hK0 hk52 (fun i hi hs => by rcases hFr i hs with h | h; exact .inr <| h; (exfalso; omega))
 replace hR42 := Rfr.keep hR42 hk52 (fun q hq hs => (fun q h1 h2 => dis48 q h2 h1) q hs hq)
 have own58 : ∀ q, F53 q → q ≠ r ∧ q ≠ r ∧ q ≠ b1 ∧ q ≠ b6 := fun q hq => by rcases hfr55 q hq with h | h; (have h1 := hVr q h; have h2 := hFlt q h; omega); omega
 have lt57 := VotT.lt ho54
 have rel59 : ∀ q, F53 q → F q ∨ w.heap.size ≤ q := fun q hq => by rcases hfr55 q hq with h | h; exact hFr q h; exact .inr (by omega)
 have dis60 : ∀ q, F53 q → ¬ inA A q := fun q h1 h2 => by rcases hfr55 q h1 with h | h; exact (fun q h1 h2 => hHF q (hAo q h2).1 h1) q h h2; (have h4 := hAlt q h2; omega)
 have dis61 : ∀ q, F53 q → ¬ H41 q := fun q h1 h2 => by rcases hfr55 q h1 with h | h; exact (fun q h1 h2 => dis48 q h2 h1) q h h2; (have h4 := lt45 q h2; omega)
 refine Oer ?_
 refine Os 3 [(10, pt b1), (41, .agg #[nt 1, nt ref, nt st])] ?_
 refine OI_set (m := 3) (kd := true) 53 (.tmp 10) (.tmp 41) 0 (.agg #[nt 1, nt ref, nt st]) [nt 1, nt ref, nt st] none (by kernel_rfl) (by kernel_rfl) (by kernel_rfl) hb1 (by kernel_rfl) (by kernel_rfl) (by kernel_rfl) (Nat.le_of_ble_eq_true (by kernel_rfl)) (by simp [Value.oneCell']) ?_
 intro w62 hb1_65 hk63 hz64
 replace hb1_65 : Blk w62 b1 [nt 1, nt ref, nt st] 53 := hb1_65
 have hsz66 := Keep.size hk63
 replace hr := hr.keep hk63 (by show ¬ (_ = _); omega)
 replace hb6_29 := hb6_29.keep hk63 (by show ¬ (_ = _); omega)
 replace hA := SlT.keep hA hk63 (fun q hq hs => by have hs : q = b1 := hs; have g0 := hAr q hq; have g1 := hAlt q hq; omega)
 replace hK0 := Keep.fresh hK0 hk63 (by intro i hi hs; first | exact hs | exact Or.inl hs | exact Or.inr hs | (exfalso; have hs2 : i = b1 := hs; omega))
 replace hR42 := Rfr.keep hR42 hk63 (fun q hq hs => by have hs : q = b1 := hs; have g0 := own46 q hq; have g1 := lt45 q hq; omega)
 replace ho54 := VotT.keep ho54 hk63 (fun q hq hs => by have hs : q = b1 := hs; have g0 := own58 q hq; have g1 := lt57 q hq; omega)
 refine Oe ?_
 refine V_ret ?_
 exact leave0 (.agg [nt 1, nt ref, nt st].toArray) (.inl rfl) (res_agg1 (m := 3) rfl rfl (by kernel_rfl) hb1_65 rfl) ⟨rfl, ⟨H41, F53, hR42, ho54, rel47, rel59, (fun q h1 h2 => dis61 q h2 h1)⟩, hK0⟩

end Go.Al


namespace Go.Al
open Go Go.RowKit Go.Proofs
section
variable {ts : List Trk} {rs r1 : List Rfm} {now iss ref st : Int} {s : VS} {q : SvS}
theorem begR_len (rs : List Rfm) (of : Int) : (begR ts s now rs of).length = rs.length := by unfold begR; rw [setsN_len]
theorem begK_len (rs : List Rfm) : ∀ k, (begK ts s now rs k).length = rs.length
  | 0 => rfl
  | k + 1 => by show (begR ts s now (begK ts s now rs k) _).length = _; rw [begR_len, begK_len rs k]
theorem svcStep_len (i : Int) (x : Rfm) (q : SvS) : (svcStep ts iss now i x q).rs.length = q.rs.length := by
  unfold svcStep
  split
  · rfl
  · split
    · show (q.rs.set _ _).length = _; rw [List.length_set]
    · show (q.rs.set _ _).length = _; rw [List.length_set]
theorem svcStep_at {k : Nat} (x : Rfm) (q : SvS) {j : Nat} (h : k < j) : (svcStep ts iss now (k : Int) x q).rs[j]? = q.rs[j]? := by
  unfold svcStep
  split
  · rfl
  · split
    · show (q.rs.set _ _)[j]? = _; rw [Int.toNat_natCast, List.getElem?_set_ne (by omega)]
    · show (q.rs.set _ _)[j]? = _; rw [Int.toNat_natCast, List.getElem?_set_ne (by omega)]
theorem svcK_at (q : SvS) : ∀ k, (svcK ts iss now r1 q k).rs.length = q.rs.length ∧ ∀ j, k ≤ j → (svcK ts iss now r1 q k).rs[j]? = q.rs[j]?
  | 0 => ⟨rfl, fun _ _ => rfl⟩
  | k + 1 => by
    obtain ⟨h1, h2⟩ := svcK_at q k
    show ((match r1[k]? with | none => svcK ts iss now r1 q k | some x => svcStep ts iss now k x (svcK ts iss now r1 q k)) : SvS).rs.length = _ ∧ ∀ j, k + 1 ≤ j → ((match r1[k]? with | none => svcK ts iss now r1 q k | some x => svcStep ts iss now k x (svcK ts iss now r1 q k)) : SvS).rs[j]? = _
    cases r1[k]? with
    | none => exact ⟨h1, fun j hj => h2 j (by omega)⟩
    | some x => exact ⟨(svcStep_len _ _ _).trans h1, fun j hj => (svcStep_at _ _ (by omega)).trans (h2 j (by omega))⟩
theorem svcK_step {k : Nat} {x : Rfm} (h : r1[k]? = some x) : svcK ts iss now r1 q (k + 1) = svcStep ts iss now (k : Int) x (svcK ts iss now r1 q k) := by
  show (match r1[k]? with | none => _ | some x => _) = _
  rw [h]
theorem step_skip {i : Int} {x : Rfm} (h : ¬ x.state = 1) : svcStep ts iss now i x q = q := by unfold svcStep; rw [if_pos h]
theorem step_on {i : Int} {x : Rfm} (h : x.state = 1) (h2 : decE ts x (tallyT q.s i) iss now = 0) : svcStep ts iss now i x q = { q with rs := q.rs.set i.toNat (decY ts x (tallyT q.s i) iss now) } := by unfold svcStep; rw [if_neg (fun h9 => h9 h), if_pos h2]
theorem step_end {i : Int} {x : Rfm} (h : x.state = 1) (h2 : ¬ decE ts x (tallyT q.s i) iss now = 0) : svcStep ts iss now i x q = ⟨closeS q.s i (decE ts x (tallyT q.s i) iss now) now, q.rs.set i.toNat (endY q.s (decY ts x (tallyT q.s i) iss now) i (decE ts x (tallyT q.s i) iss now) now), q.out ++ [Evt.mk 1 i (decE ts x (tallyT q.s i) iss now)]⟩ := by unfold svcStep; rw [if_neg (fun h9 => h9 h), if_neg h2]
theorem decY_trk (x : Rfm) (y : Tly) : (decY ts x y iss now).track = x.track := by unfold decY; split <;> rfl
theorem endR_set {y : Rfm} {k : Nat} (hk : k < rs.length) : endR s (rs.set ((k : Int)).toNat y) (k : Int) st now = rs.set ((k : Int)).toNat (endY s y (k : Int) st now) := by
  have e : getA (rs.set ((k : Int)).toNat y) (k : Int) = y := by
    unfold getA getR
    rw [List.length_set, if_pos (by omega), List.getElem?_set_self (by omega)]; rfl
  unfold endR
  rw [e, List.set_set]
theorem svc_out_len (q : SvS) : ∀ k, (svcK ts iss now r1 q k).out.length ≤ q.out.length + k
  | 0 => Nat.le_refl _
  | k + 1 => by
    have h := svc_out_len q k
    show ((match r1[k]? with | none => svcK ts iss now r1 q k | some x => svcStep ts iss now k x (svcK ts iss now r1 q k)) : SvS).out.length ≤ _
    cases r1[k]? with
    | none => show (svcK ts iss now r1 q k).out.length ≤ _; omega
    | some x =>
      show (svcStep ts iss now k x (svcK ts iss now r1 q k)).out.length ≤ _
      unfold svcStep
      split
      · omega
      · split
        · show (svcK ts iss now r1 q k).out.length ≤ _; omega
        · show (_ ++ [_]).length ≤ _; rw [List.length_append, List.length_singleton]; omega
end

set_option maxRecDepth 10000 in
set_option maxHeartbeats 4000000 in
theorem service_spec (H : Nat → Prop) (r g : Nat) (ts : List Trk) (rs : List Rfm) (F : Nat → Prop) (v : Nat) (s : VS) (G : Nat → Prop) (l : Nat) (xs : List Acc) (cs : List Ci) (now : Int) (w : World) (hR : Rfr H w r g ts rs) (hV : VotT F w v s) (hl : Led G w l xs cs) (hHF : ∀ q, H q → ¬ F q) (hHG : ∀ q, H q → ¬ G q) (hFG : ∀ q, F q → ¬ G q) : Calls Tryz.prog 22 #[.pointer (some ⟨r, 0, none⟩), .pointer (some ⟨l, 0, none⟩), .pointer (some ⟨v, 0, none⟩), .int .i64 now] w fun e w' => ∃ A' cap', e = .returned (.slice A' (svcQ ts xs s rs now).out.length cap') ∧ SlT w' 3 Evt.cells A' cap' (svcQ ts xs s rs now).out ∧ (∀ q, inA A' q → w.heap.size ≤ q) ∧ (∃ H' F', Rfr H' w' r g ts (svcQ ts xs s rs now).rs ∧ VotT F' w' v (svcQ ts xs s rs now).s ∧ (∀ q, H' q → H q ∨ w.heap.size ≤ q) ∧ (∀ q, F' q → F q ∨ w.heap.size ≤ q) ∧ (∀ q, H' q → ¬ F' q) ∧ (∀ q, inA A' q → ¬ H' q) ∧ (∀ q, inA A' q → ¬ F' q)) ∧ Keep (fun q => q = g ∨ F q) w w' := by
 have hHlt := Rfr.lt hR
 have hrH := Rfr.at_ hR
 have hgH := Rfr.atg hR
 have hrlt := hHlt _ hrH
 have hglt := hHlt _ hgH
 have hin := Rfr.inn hR
 obtain ⟨A, cap, hr, hA, hAo, hrg⟩ := Rfr.parts hR
 have hAlt := SlT.lt hA
 have hAr : ∀ q, inA A q → q ≠ r ∧ q ≠ g ∧ q < w.heap.size := fun q hq => ⟨(hAo q hq).2.1, (hAo q hq).2.2, hAlt q hq⟩
 have hgo : ∀ q, only g q → q ≠ r ∧ q = g := fun q hq => ⟨fun e => hrg (e.symm.trans hq), hq⟩
 have hgl : ∀ q, only g q → q < w.heap.size := fun q hq => by rw [show q = g from hq]; exact hglt
 have hHo : ∀ q, H q → 0 ≤ q := fun q _ => Nat.zero_le q
 have htl := hin.tl
 have hrl := hin.rl
 have hFlt := VotT.lt hV
 have hvlt := hFlt _ (VotT.at_ hV)
 have hVr : ∀ q, F q → q ≠ r := fun q hq e => hHF r hrH (e ▸ hq)
 have hGlt := Led.lt hl
 have hllt := hGlt _ (Led.at_ hl)
 have hlr : ∀ q, G q → q ≠ r := fun q hq e => hHG r hrH (e ▸ hq)
 have hinv := Led.inv hl
 have hHr : ∀ q, H q → H q ∨ w.heap.size ≤ q := fun _ h => .inl h
 have hFr : ∀ q, F q → F q ∨ w.heap.size ≤ q := fun _ h => .inl h
 have hK0 : Keep (fun q => q = g ∨ F q) w w := Keep.refl _ _
 have hzhK0 := Keep.size hK0
 refine enterM Tryz.func22 rfl [pt r, pt l, pt v, nt now] 77 rfl rfl rfl ?_
 refine V_pick [(0, pt r), (1, pt l), (2, pt v), (3, nt now)] rfl ?_
 refine Vr ?_
 refine OI_box 34 (.tmp 0) (pt r) [pt r] (some 4) (by kernel_rfl) (by kernel_rfl) (by kernel_rfl) ?_
 intro b1 w1 e1 hb1 k1 z1
 have hsz2 := Keep.size k1
 replace hr := hr.keep k1 (fun f => f)
 replace hA := SlT.keep0 hA k1
 replace hR := Rfr.keep hR k1 (fun _ _ f => f)
 replace hV := VotT.keep hV k1 (fun _ _ f => f)
 replace hl := Led.keep hl k1 (fun _ _ f => f)
 replace hK0 := Keep.tr hK0 (Keep.ofNone k1)
 have hb1lt := hb1.lt
 refine OI_box 32 (.tmp 1) (pt l) [pt l] (some 5) (by kernel_rfl) (by kernel_rfl) (by kernel_rfl) ?_
 intro b3 w3 e3 hb3 k3 z3
 have hsz4 := Keep.size k3
 replace hr := hr.keep k3 (fun f => f)
 replace hb1 := hb1.keep k3 (fun f => f)
 replace hA := SlT.keep0 hA k3
 replace hR := Rfr.keep hR k3 (fun _ _ f => f)
 replace hV := VotT.keep hV k3 (fun _ _ f => f)
 replace hl := Led.keep hl k3 (fun _ _ f => f)
 replace hK0 := Keep.tr hK0 (Keep.ofNone k3)
 have hb3lt := hb3.lt
 refine OI_box 33 (.tmp 2) (pt v) [pt v] (some 6) (by kernel_rfl) (by kernel_rfl) (by kernel_rfl) ?_
 intro b5 w5 e5 hb5 k5 z5
 have hsz6 := Keep.size k5
 replace hr := hr.keep k5 (fun f => f)
 replace hb1 := hb1.keep k5 (fun f => f)
 replace hb3 := hb3.keep k5 (fun f => f)
 replace hA := SlT.keep0 hA k5
 replace hR := Rfr.keep hR k5 (fun _ _ f => f)
 replace hV := VotT.keep hV k5 (fun _ _ f => f)
 replace hl := Led.keep hl k5 (fun _ _ f => f)
 replace hK0 := Keep.tr hK0 (Keep.ofNone k5)
 have hb5lt := hb5.lt
 refine OI_box 3 (.tmp 3) (nt now) [nt now] (some 7) (by kernel_rfl) (by kernel_rfl) (by kernel_rfl) ?_
 intro b7 w7 e7 hb7 k7 z7
 have hsz8 := Keep.size k7
 replace hr := hr.keep k7 (fun f => f)
 replace hb1 := hb1.keep k7 (fun f => f)
 replace hb3 := hb3.keep k7 (fun f => f)
 replace hb5 := hb5.keep k7 (fun f => f)
 replace hA := SlT.keep0 hA k7
 replace hR := Rfr.keep hR k7 (fun _ _ f => f)
 replace hV := VotT.keep hV k7 (fun _ _ f => f)
 replace hl := Led.keep hl k7 (fun _ _ f => f)
 replace hK0 := Keep.tr hK0 (Keep.ofNone k7)
 have hb7lt := hb7.lt
 refine Os 5 [(4, pt b1), (5, pt b3), (6, pt b5), (7, pt b7), (8, .slice none 0 0)] ?_
 refine Oe ?_
 refine V_seq ?_
 refine Vr ?_
 refine Oc 34 (.tmp 4) 0 (pt r) (some 15) hb1 rfl ?_
 refine Os 3 [(4, pt b1), (5, pt b3), (6, pt b5), (7, pt b7), (8, .slice none 0 0), (17, .bool false)] ?_
 refine Oc 32 (.tmp 5) 0 (pt l) (some 18) hb3 rfl ?_
 refine Os 7 [(4, pt b1), (5, pt b3), (6, pt b5), (7, pt b7), (8, .slice none 0 0), (21, .bool false)] ?_
 refine Oc 33 (.tmp 6) 0 (pt v) (some 22) hb5 rfl ?_
 refine Os 10 [(4, pt b1), (5, pt b3), (6, pt b5), (7, pt b7), (8, .slice none 0 0), (24, .bool false)] ?_
 refine Oe ?_
 refine V_false rfl ?_
 refine V_skip ?_
 refine X_then ?_
 refine V_seq ?_
 refine Vr ?_
 refine Oc 34 (.tmp 4) 0 (pt r) (some 25) hb1 rfl ?_
 refine Os 3 [(4, pt b1), (5, pt b3), (6, pt b5), (7, pt b7), (8, .slice none 0 0), (27, pt r)] ?_
 refine Oc 29 (.tmp 27) 0 (.slice A ts.length cap) (some 28) hr rfl ?_
 refine Os 6 [(4, pt b1), (5, pt b3), (6, pt b5), (7, pt b7), (8, .slice none 0 0), (29, nt ((ts.length : Nat) : Int)), (30, nt 0)] ?_
 refine Oe ?_
 refine V_block ?_
 refine V_pick [(4, pt b1), (5, pt b3), (6, pt b5), (7, pt b7), (8, .slice none 0 0), (29, nt ((ts.length : Nat) : Int)), (30, nt 0)] rfl ?_
 refine V_loop (fun k wI e => ∃ i : Nat, ∃ Hi : Nat → Prop, (k + i = ts.length) ∧ (Rfr Hi wI r g ts (begK ts s now rs i)) ∧ (∀ q, Hi q → 0 ≤ q ∧ q ≠ b1 ∧ q ≠ b3 ∧ q ≠ b5 ∧ q ≠ b7) ∧ (∀ q, Hi q → H q ∨ w.heap.size ≤ q) ∧ (∀ q, Hi q → ¬ F q) ∧ (∀ q, Hi q → ¬ G q) ∧ Keep (only g) w7 wI ∧ e = [(4, pt b1), (5, pt b3), (6, pt b5), (7, pt b7), (8, .slice none 0 0), (29, nt ((ts.length : Nat) : Int)), (30, nt ((i : Nat) : Int))]) ts.length ⟨0, H, by omega, hR, (fun q hq => by have h1 := hHo q hq; have h2 := hHlt q hq; omega), hHr, hHF, hHG, Keep.refl _ _, rfl⟩ ?_
 rintro k10 w9 _ ⟨i, Hi, hki, hRi, hHio, hHifr, hHiF, hHiG, hk11, rfl⟩
 have hsz12 := Keep.size hk11
 replace hr := hr.keep hk11 (fun hs => by have h1 := hgo _ hs; have h2 := hgl _ hs; omega)
 replace hb1 := hb1.keep hk11 (fun hs => by have h1 := hgo _ hs; have h2 := hgl _ hs; omega)
 replace hb3 := hb3.keep hk11 (fun hs => by have h1 := hgo _ hs; have h2 := hgl _ hs; omega)
 replace hb5 := hb5.keep hk11 (fun hs => by have h1 := hgo _ hs; have h2 := hgl _ hs; omega)
 replace hb7 := hb7.keep hk11 (fun hs => by have h1 := hgo _ hs; have h2 := hgl _ hs; omega)
 replace hA := SlT.keep hA hk11 (fun q hq hs => (fun q h1 h2 => (hAo q h2).2.2 h1) q hs hq)
 replace hV := VotT.keep hV hk11 (fun q hq hs => (fun q h1 h2 => hHF q (by rw [show q = g from h1]; exact hgH) h2) q hs hq)
 replace hl := Led.keep hl hk11 (fun q hq hs => (fun q h1 h2 => hHG q (by rw [show q = g from h1]; exact hgH) h2) q hs hq)
 replace hK0 := Keep.fresh hK0 hk11 (by intro i hi hs; first | exact hs | (exfalso; have h1 := hgo i hs; have h2 := hgl i hs; omega) | (have h1 := hgo i hs; have h2 := hgl i hs; show _ ∨ _; omega))
 have hzhk11 := Keep.size hk11
 have lt13 := Rfr.lt hRi
 refine Vr ?_
 refine Os 1 [(4, pt b1), (5, pt b3), (6, pt b5), (7, pt b7), (8, .slice none 0 0), (29, nt ((ts.length : Nat) : Int)), (30, nt ((i : Nat) : Int)), (31, .bool (decide (((i : Nat) : Int) < ((ts.length : Nat) : Int))))] ?_
 refine Oe ?_
 refine V_seq ?_
 refine V_if (((i : Nat) : Int) < ((ts.length : Nat) : Int)) (by kernel_rfl) (fun hc14 => ?_) (fun hc14 => ?_)
 ·
  have hki2 : i < ts.length := by omega
  refine V_skip ?_
  refine X_then ?_
  refine V_seq ?_
  refine V_block ?_
  refine Vr ?_
  refine Os 2 [(4, pt b1), (5, pt b3), (6, pt b5), (7, pt b7), (8, .slice none 0 0), (9, nt ((i : Nat) : Int)), (29, nt ((ts.length : Nat) : Int)), (30, nt ((i : Nat) : Int))] ?_
  refine Oe ?_
  refine V_region ?_
  refine Oc 34 (.tmp 4) 0 (pt r) (some 33) hb1 rfl ?_
  refine Oc 33 (.tmp 6) 0 (pt v) (some 34) hb5 rfl ?_
  refine Os 3 [(4, pt b1), (5, pt b3), (6, pt b5), (7, pt b7), (8, .slice none 0 0), (29, nt ((ts.length : Nat) : Int)), (30, nt ((i : Nat) : Int)), (33, pt r), (34, pt v), (35, nt ((i : Nat) : Int))] ?_
  refine Oc 3 (.tmp 7) 0 (nt now) (some 36) hb7 rfl ?_
  refine Ok { callee := (Callee.value (Operand.func 49)), args := #[(Operand.tmp 33), (Operand.tmp 34), (Operand.tmp 35), (Operand.tmp 36)], argTypes := #[34, 33, 3, 3] } 49 #[pt r, pt v, nt ((i : Nat) : Int), nt now] (some 37) (begins_spec Hi r g ts (begK ts s now rs i) F v s i now _ hRi hV hHiF hki2) ?_
  rintro _ w17 ⟨rfl, ⟨H19, ho20, hfr21⟩, hk18⟩
  refine ⟨_, rfl, ?_⟩
  have hsz22 := Keep.size hk18
  replace hr := hr.keep hk18 (fun hs => by have h1 := hgo _ hs; have h2 := hgl _ hs; omega)
  replace hb1 := hb1.keep hk18 (fun hs => by have h1 := hgo _ hs; have h2 := hgl _ hs; omega)
  replace hb3 := hb3.keep hk18 (fun hs => by have h1 := hgo _ hs; have h2 := hgl _ hs; omega)
  replace hb5 := hb5.keep hk18 (fun hs => by have h1 := hgo _ hs; have h2 := hgl _ hs; omega)
  replace hb7 := hb7.keep hk18 (fun hs => by have h1 := hgo _ hs; have h2 := hgl _ hs; omega)
  replace hA := SlT.keep hA hk18 (fun q hq hs => (fun q h1 h2 => (hAo q h2).2.2 h1) q hs hq)
  replace hV := VotT.keep hV hk18 (fun q hq hs => (fun q h1 h2 => hHiF q (by rw [show q = g from h1]; exact (Rfr.atg hRi)) h2) q hs hq)
  replace hl := Led.keep hl hk18 (fun q hq hs => (fun q h1 h2 => hHiG q (by rw [show q = g from h1]; exact (Rfr.atg hRi)) h2) q hs hq)
  replace hK0 := Keep.fresh hK0 hk18 (by intro i hi hs; first | exact hs | (exfalso; have h1 := hgo i hs; have h2 := hgl i hs; omega) | (have h1 := hgo i hs; have h2 := hgl i hs; show _ ∨ _; omega))
  replace hk11 := Keep.fresh hk11 hk18 (by intro i hi hs; first | exact hs | (exfalso; have h1 := hgo i hs; have h2 := hgl i hs; omega) | (have h1 := hgo i hs; have h2 := hgl i hs; show _ ∨ _; omega))
  have own24 : ∀ q, H19 q → 0 ≤ q ∧ q ≠ b1 ∧ q ≠ b3 ∧ q ≠ b5 ∧ q ≠ b7 := fun q hq => by rcases hfr21 q hq with h | h; (have h1 := hHio q h; have h2 := lt13 q h; omega); omega
  have lt23 := Rfr.lt ho20
  have rel25 : ∀ q, H19 q → H q ∨ w.heap.size ≤ q := fun q hq => by rcases hfr21 q hq with h | h; exact hHifr q h; exact .inr (by omega)
  have dis26 : ∀ q, H19 q → ¬ F q := fun q h1 h2 => by rcases hfr21 q h1 with h | h; exact hHiF q h h2; (have h4 := hFlt q h2; omega)
  have dis27 : ∀ q, H19 q → ¬ G q := fun q h1 h2 => by rcases hfr21 q h1 with h | h; exact hHiG q h h2; (have h4 := hGlt q h2; omega)
  refine OI_end rfl ?_
  refine X_block ?_
  refine X_then ?_
  refine V_region ?_
  have hw28 : IntKind.i64.wrap (((i : Nat) : Int) + 1) = ((i + 1 : Nat) : Int) := (wrap64_id (by omega) (by omega)).trans (by omega)
  refine Os 1 [(4, pt b1), (5, pt b3), (6, pt b5), (7, pt b7), (8, .slice none 0 0), (29, nt ((ts.length : Nat) : Int)), (38, nt (IntKind.i64.wrap (((i : Nat) : Int) + 1)))] ?_
  refine OI_eq [(4, pt b1), (5, pt b3), (6, pt b5), (7, pt b7), (8, .slice none 0 0), (29, nt ((ts.length : Nat) : Int)), (38, nt ((i + 1 : Nat) : Int))] (by rw [hw28]) ?_
  refine Os 2 [(4, pt b1), (5, pt b3), (6, pt b5), (7, pt b7), (8, .slice none 0 0), (29, nt ((ts.length : Nat) : Int)), (30, nt ((i + 1 : Nat) : Int))] ?_
  refine OI_end rfl ?_
  exact V_again (k10 - 1) (by omega) [(4, pt b1), (5, pt b3), (6, pt b5), (7, pt b7), (8, .slice none 0 0), (29, nt ((ts.length : Nat) : Int)), (30, nt ((i + 1 : Nat) : Int))] rfl ⟨i + 1, H19, by omega, ho20, (fun q hq => by have h1 := own24 q hq; have h2 := lt23 q hq; omega), rel25, dis26, dis27, hk11, rfl⟩
 refine V_exit ?_
 refine X_exit_then ?_
 refine X_exit_then ?_
 refine X_exit_here ?_
 refine X_then ?_
 refine Vr ?_
 refine OI_alloc 50 (.slice none 0 0) [.slice none 0 0] (some 10) (by kernel_rfl) (by kernel_rfl) (by kernel_rfl) ?_
 intro b29 w29 e29 hb29 k29 z29
 have hsz30 := Keep.size k29
 replace hr := hr.keep k29 (fun f => f)
 replace hb1 := hb1.keep k29 (fun f => f)
 replace hb3 := hb3.keep k29 (fun f => f)
 replace hb5 := hb5.keep k29 (fun f => f)
 replace hb7 := hb7.keep k29 (fun f => f)
 replace hA := SlT.keep0 hA k29
 replace hV := VotT.keep hV k29 (fun _ _ f => f)
 replace hl := Led.keep hl k29 (fun _ _ f => f)
 replace hK0 := Keep.tr hK0 (Keep.ofNone k29)
 replace hRi := Rfr.keep hRi k29 (fun _ _ f => f)
 have hb29lt := hb29.lt
 refine Oe ?_
 refine V_seq ?_
 refine Vr ?_
 refine Oc 34 (.tmp 4) 0 (pt r) (some 39) hb1 rfl ?_
 refine Ok { callee := (Callee.value (Operand.func 48)), args := #[(Operand.tmp 39)], argTypes := #[34] } 48 #[pt r] (some 40) (all_at r g _ _ _ _ hr) ?_
 rintro _ w33 ⟨bg35, bs36, bn37, rfl, hbg35, hbs36, hbn37, hk34, hgebg35, hgebs36, hgebn37⟩
 refine ⟨_, rfl, ?_⟩
 have hsz38 := Keep.size hk34
 replace hr := hr.keep hk34 (fun f => f)
 replace hb1 := hb1.keep hk34 (fun f => f)
 replace hb3 := hb3.keep hk34 (fun f => f)
 replace hb5 := hb5.keep hk34 (fun f => f)
 replace hb7 := hb7.keep hk34 (fun f => f)
 replace hb29 := hb29.keep hk34 (fun f => f)
 replace hA := SlT.keep0 hA hk34
 replace hV := VotT.keep hV hk34 (fun _ _ f => f)
 replace hl := Led.keep hl hk34 (fun _ _ f => f)
 replace hK0 := Keep.tr hK0 (Keep.ofNone hk34)
 replace hRi := Rfr.keep hRi hk34 (fun _ _ f => f)
 have hbg35lt := hbg35.lt
 have hbs36lt := hbs36.lt
 have hbn37lt := hbn37.lt
 refine Oe ?_
 refine V_block ?_
 have hie : i = ts.length := by omega
 obtain ⟨r1, hr1⟩ : ∃ q, q = begK ts s now rs ts.length := ⟨_, rfl⟩
 rw [hie, ← hr1] at hRi
 have hr1l : r1.length = rs.length := by rw [hr1, begK_len]
 obtain ⟨D, hD9, hDH⟩ := Rfr.grqF hRi
 obtain ⟨_, _, _, _, A2, cap2, hat2, hAD2⟩ := hD9
 have hA2 := hat2.sl
 have owA2 : ∀ q, inA A2 q → q ≠ g ∧ q < w33.heap.size ∧ q ≠ b1 ∧ q ≠ b3 ∧ q ≠ b5 ∧ q ≠ b7 ∧ q ≠ b29 ∧ q ≠ bg35 ∧ q ≠ bs36 ∧ q ≠ bn37 := fun q hq => by have h1 := hHio q (hDH q (hAD2 q hq)); have h2 := lt13 q (hDH q (hAD2 q hq)); exact ⟨fun e => hat2.off (e ▸ hq), by omega⟩
 refine V_pick [(4, pt b1), (5, pt b3), (6, pt b5), (7, pt b7), (10, pt b29), (40, .func (.func 183) #[] #[pt bg35, pt bs36, pt bn37])] rfl ?_
 have hN0 : w.heap.size ≤ w33.heap.size := Keep.size hK0
 refine V_range2 (gf := 183) (caps := #[pt bg35, pt bs36, pt bn37]) (m := r1.length) (by kernel_rfl) (by kernel_rfl) (by kernel_rfl) (alongQ bg35 bs36 bn37 g cap2 A2 r1 (by omega)) (⟨hbg35, hat2, ⟨hbs36, hbn37, hA2⟩⟩) (fun W W' h k => ⟨h.1.quiet k, h.2.1.quiet k, h.2.2.quiet k⟩) (GQ.enc2_size _) (fun M1 k W => ∃ Ak : Option Addr, ∃ capk : Nat, ∃ Hk : Nat → Prop, ∃ Fk : Nat → Prop, (Blk W r [.slice A ts.length cap, pt g] 97) ∧ (Blk W b1 [pt r] 34) ∧ (Blk W b3 [pt l] 32) ∧ (Blk W b5 [pt v] 33) ∧ (Blk W b7 [nt now] 3) ∧ (Blk W bs36 [nt 0] 3) ∧ (Blk W bn37 [nt 0] 3) ∧ (SlT W 18 Trk.cells A cap ts) ∧ (SlT W 47 GQ.Ci.cells A2 cap2 (cellsQ 0 r1)) ∧ (Led G W l xs cs) ∧ (Keep (fun q => q = g ∨ F q) w W) ∧ (Blk W b29 [.slice Ak ((svcK ts (tot xs) now r1 ⟨s, r1, []⟩ k).out.length) capk] 50) ∧ (SlT W 3 Evt.cells Ak capk ((svcK ts (tot xs) now r1 ⟨s, r1, []⟩ k).out)) ∧ (Rfr Hk W r g ts (svcK ts (tot xs) now r1 ⟨s, r1, []⟩ k).rs) ∧ (VotT Fk W v (svcK ts (tot xs) now r1 ⟨s, r1, []⟩ k).s) ∧ (∀ q, inA Ak q → M1 ≤ q) ∧ (∀ q, Hk q → (q < w33.heap.size ∨ M1 ≤ q) ∧ q ≠ b1 ∧ q ≠ b3 ∧ q ≠ b5 ∧ q ≠ b7 ∧ q ≠ b29 ∧ q ≠ bs36 ∧ q ≠ bn37) ∧ (∀ q, Hk q → H q ∨ w.heap.size ≤ q) ∧ (∀ q, Fk q → (q < w33.heap.size ∨ M1 ≤ q) ∧ q ≠ r ∧ q ≠ b1 ∧ q ≠ b3 ∧ q ≠ b5 ∧ q ≠ b7 ∧ q ≠ b29 ∧ q ≠ bs36 ∧ q ≠ bn37) ∧ (∀ q, Fk q → F q ∨ w.heap.size ≤ q) ∧ (∀ q, Hk q → ¬ Fk q) ∧ (∀ q, Hk q → ¬ G q) ∧ (∀ q, Fk q → ¬ G q) ∧ (∀ q, Fk q → ¬ inA A2 q) ∧ (∀ q, Fk q → ¬ inA A q) ∧ (∀ q, inA Ak q → ¬ Hk q) ∧ (∀ q, inA Ak q → ¬ Fk q)) (fun M1 c k W => False) (fun M1 k W W' h hk => by obtain ⟨Ak, capk, Hk, Fk, jr, jb1, jb3, jb5, jb7, jbs36, jbn37, jA, jA2, jhl, jhK0, jb29, jAk, jR, jV, ownk, hHko, hHkr, hFko, hFkr, dHF, dHG, dFG, dFA2, dFA, dAkH, dAkF⟩ := h; exact ⟨Ak, capk, Hk, Fk, jr.quiet hk, jb1.quiet hk, jb3.quiet hk, jb5.quiet hk, jb7.quiet hk, jbs36.quiet hk, jbn37.quiet hk, jA.quiet hk, jA2.quiet hk, Led.quiet jhl hk, jhK0.quiet hk (by omega), jb29.quiet hk, jAk.quiet hk, Rfr.quiet jR hk, VotT.quiet jV hk, ownk, hHko, hHkr, hFko, hFkr, dHF, dHG, dFG, dFA2, dFA, dAkH, dAkF⟩) (fun _ _ _ _ _ h _ => h.elim) (fun M1 hM1 => ⟨none, 0, Hi, F, hr, hb1, hb3, hb5, hb7, hbs36, hbn37, hA, hA2, hl, hK0, hb29, SlT.nil _ _ _, hRi, hV, fun q h => (inA_none h).elim, (fun q hq => by have h1 := hHio q hq; have h2 := lt13 q hq; omega), hHifr, (fun q hq => by have h1 := hVr q hq; have h2 := hFlt q hq; omega), hFr, hHiF, hHiG, hFG, (fun q h1 h2 => hHiF q (hDH q (hAD2 q h2)) h1), (fun q h1 h2 => hHF q (hAo q h2).1 h1), fun q h => (inA_none h).elim, fun q h => (inA_none h).elim⟩) (fun M1 k W h => by obtain ⟨Ak, capk, Hk, Fk, jr, jb1, jb3, jb5, jb7, jbs36, jbn37, jA, jA2, jhl, jhK0, jb29, jAk, jR, jV, ownk, hHko, hHkr, hFko, hFkr, dHF, dHG, dFG, dFA2, dFA, dAkH, dAkF⟩ := h; exact ⟨jbs36, jbn37, jA2⟩) ?_ ?_ (fun _ _ _ _ _ _ _ _ h _ => h.elim)
 ·
  intro lp D M1 k W hD hl hM hMW hkm ⟨Ak, capk, Hk, Fk, jr, jb1, jb3, jb5, jb7, jbs36, jbn37, jA, jA2, jhl, jhK0, jb29, jAk, jR, jV, ownk, hHko, hHkr, hFko, hFkr, dHF, dHG, dFG, dFA2, dFA, dAkH, dAkF⟩ ⟨rr, hrr⟩ hDD
  have hzjhK0 := Keep.size jhK0
  have hrlt := jr.lt
  have hb1lt := jb1.lt
  have hb3lt := jb3.lt
  have hb5lt := jb5.lt
  have hb7lt := jb7.lt
  have hb29lt := jb29.lt
  have hbs36lt := jbs36.lt
  have hbn37lt := jbn37.lt
  have ltjA := SlT.lt jA
  have ltjA2 := SlT.lt jA2
  have ltjAk := SlT.lt jAk
  have lt39 := Rfr.lt jR
  have lt40 := VotT.lt jV
  obtain ⟨x, hx⟩ : ∃ x, r1[k]? = some x := ⟨_, List.getElem?_eq_getElem (by omega)⟩
  rw [GQ.enc2_at (zipQ_at0 hx)]
  obtain ⟨hql, hqa⟩ := svcK_at (ts := ts) (iss := (tot xs)) (now := now) (r1 := r1) ⟨s, r1, []⟩ k
  have hqx := (hqa k (Nat.le_refl _)).trans hx
  have hxt := (Rfr.inn jR).rtk x (List.mem_of_getElem? hqx)
  have hstp := svcK_step (ts := ts) (iss := (tot xs)) (now := now) (q := ⟨s, r1, []⟩) hx
  replace hql : (svcK ts (tot xs) now r1 ⟨s, r1, []⟩ k).rs.length = r1.length := hql
  have hol := svc_out_len (ts := ts) (iss := (tot xs)) (now := now) (r1 := r1) ⟨s, r1, []⟩ k
  replace hol : (svcK ts (tot xs) now r1 ⟨s, r1, []⟩ k).out.length ≤ 0 + k := hol
  have hkl : k < r1.length := hkm
  refine V_pick [(4, pt b1), (5, pt b3), (6, pt b5), (7, pt b7), (10, pt b29), (41, nt ((k : Nat) : Int)), (42, .agg (Rfm.cells x).toArray)] rfl ?_
  have hfen : Keep (fen w33.heap.size M1) W W := Keep.refl _ _
  have hzhfen := Keep.size hfen
  refine Vr ?_
  refine Os 1 [(4, pt b1), (5, pt b3), (6, pt b5), (7, pt b7), (10, pt b29), (11, nt ((k : Nat) : Int)), (42, .agg (Rfm.cells x).toArray)] ?_
  refine Oe ?_
  refine V_region ?_
  refine OI_alloc 57 (.agg (Rfm.cells Rfm.zero).toArray) (Rfm.cells Rfm.zero) (some 12) (by kernel_rfl) (by kernel_rfl) (by kernel_rfl) ?_
  intro b41 w41 e41 hb41 k41 z41
  have hsz42 := Keep.size k41
  replace jr := jr.keep k41 (fun f => f)
  replace jb1 := jb1.keep k41 (fun f => f)
  replace jb3 := jb3.keep k41 (fun f => f)
  replace jb5 := jb5.keep k41 (fun f => f)
  replace jb7 := jb7.keep k41 (fun f => f)
  replace jb29 := jb29.keep k41 (fun f => f)
  replace jbs36 := jbs36.keep k41 (fun f => f)
  replace jbn37 := jbn37.keep k41 (fun f => f)
  replace jA := SlT.keep0 jA k41
  replace jA2 := SlT.keep0 jA2 k41
  replace jAk := SlT.keep0 jAk k41
  replace jhl := Led.keep jhl k41 (fun _ _ f => f)
  replace jhK0 := Keep.tr jhK0 (Keep.ofNone k41)
  replace jR := Rfr.keep jR k41 (fun _ _ f => f)
  replace jV := VotT.keep jV k41 (fun _ _ f => f)
  replace hfen := Keep.tr hfen (Keep.ofNone k41)
  have hb41lt := hb41.lt
  refine OI_set (m := 45) (kd := true) 57 (.tmp 12) (.tmp 42) 0 (.agg (Rfm.cells x).toArray) (Rfm.cells x) none (by kernel_rfl) (by kernel_rfl) (by kernel_rfl) hb41 (by kernel_rfl) rfl (Rfm.len _) (Nat.le_of_ble_eq_true (by kernel_rfl)) (Rfm.one _) ?_
  intro w43 hb41_46 hk44 hz45
  replace hb41_46 : Blk w43 b41 (Rfm.cells x) 57 := (Blk.eqL (Rfm.over _ _) hb41_46)
  have hsz47 := Keep.size hk44
  replace jr := jr.keep hk44 (by show ¬ (_ = _); omega)
  replace jb1 := jb1.keep hk44 (by show ¬ (_ = _); omega)
  replace jb3 := jb3.keep hk44 (by show ¬ (_ = _); omega)
  replace jb5 := jb5.keep hk44 (by show ¬ (_ = _); omega)
  replace jb7 := jb7.keep hk44 (by show ¬ (_ = _); omega)
  replace jb29 := jb29.keep hk44 (by show ¬ (_ = _); omega)
  replace jbs36 := jbs36.keep hk44 (by show ¬ (_ = _); omega)
  replace jbn37 := jbn37.keep hk44 (by show ¬ (_ = _); omega)
  replace jA := SlT.keep jA hk44 (fun q hq hs => by have hs : q = b41 := hs; have g0 := hAr q hq; have g1 := ltjA q hq; omega)
  replace jA2 := SlT.keep jA2 hk44 (fun q hq hs => by have hs : q = b41 := hs; have g0 := owA2 q hq; have g1 := ltjA2 q hq; omega)
  replace jAk := SlT.keep jAk hk44 (fun q hq hs => by have hs : q = b41 := hs; have g0 := ownk q hq; have g1 := ltjAk q hq; omega)
  replace jhl := Led.keep jhl hk44 (fun q hq hs => by have hs : q = b41 := hs; have g0 := hlr q hq; have g1 := hGlt q hq; omega)
  replace jhK0 := Keep.fresh jhK0 hk44 (by intro i hi hs; first | exact hs | exact Or.inl hs | exact Or.inr hs | (exfalso; have hs2 : i = b41 := hs; omega))
  replace jR := Rfr.keep jR hk44 (fun q hq hs => by have hs : q = b41 := hs; have g0 := hHko q hq; have g1 := lt39 q hq; omega)
  replace jV := VotT.keep jV hk44 (fun q hq hs => by have hs : q = b41 := hs; have g0 := hFko q hq; have g1 := lt40 q hq; omega)
  replace hfen := Keep.fresh hfen hk44 (by intro i hi hs; have hs2 : i = b41 := hs; show _ ∨ _; omega)
  refine OI_end rfl ?_
  refine X_begin2 hfen ?_
  intro W2 hk2 ⟨r2, hr2⟩ hD2
  have hsz48 := Keep.size hk2
  replace jr := Blk.quiet jr hk2
  replace jb1 := Blk.quiet jb1 hk2
  replace jb3 := Blk.quiet jb3 hk2
  replace jb5 := Blk.quiet jb5 hk2
  replace jb7 := Blk.quiet jb7 hk2
  replace jb29 := Blk.quiet jb29 hk2
  replace jbs36 := Blk.quiet jbs36 hk2
  replace jbn37 := Blk.quiet jbn37 hk2
  replace hb41_46 := Blk.quiet hb41_46 hk2
  replace jA := SlT.quiet jA hk2
  replace jA2 := SlT.quiet jA2 hk2
  replace jAk := SlT.quiet jAk hk2
  replace jhl := Led.quiet jhl hk2
  replace jhK0 := Keep.quiet jhK0 hk2 (by omega)
  replace jR := Rfr.quiet jR hk2
  replace jV := VotT.quiet jV hk2
  have hzhk2 := Keep.size hk2
  have hfenb : Keep (fen w33.heap.size M1) W2 W2 := Keep.refl _ _
  have hzhfenb := Keep.size hfenb
  refine V_block ?_
  refine V_seq ?_
  refine Vr ?_
  refine Os 1 [(4, pt b1), (5, pt b3), (6, pt b5), (7, pt b7), (10, pt b29), (11, nt ((k : Nat) : Int)), (12, pt b41), (43, pt b41)] ?_
  refine Oc 3 (.tmp 43) 0 (nt x.state) (some 44) hb41_46 rfl ?_
  refine Os 3 [(4, pt b1), (5, pt b3), (6, pt b5), (7, pt b7), (10, pt b29), (11, nt ((k : Nat) : Int)), (12, pt b41), (45, .bool (!(decide (x.state = 1))))] ?_
  refine Oe ?_
  refine V_not (x.state = 1) (by kernel_rfl) (fun hc49 => ?_) (fun hc49 => ?_)
  ·
   refine V_exit ?_
   refine X_exit_then ?_
   refine X_exit_here ?_
   have hq9 := hstp.trans (step_skip hc49)
   exact fun a _ => ⟨hfenb, Ak, capk, Hk, Fk, jr, jb1, jb3, jb5, jb7, jbs36, jbn37, jA, jA2, jhl, jhK0, by rw [hq9]; exact jb29, by rw [hq9]; exact jAk, by rw [hq9]; exact jR, by rw [hq9]; exact jV, ownk, (fun q hq => by have h1 := hHko q hq; have h2 := lt39 q hq; omega), hHkr, (fun q hq => by have h1 := hFko q hq; have h2 := lt40 q hq; omega), hFkr, dHF, dHG, dFG, dFA2, dFA, dAkH, dAkF⟩
  refine V_skip ?_
  refine X_then ?_
  refine V_seqJ (fun wI e => ∃ b13 : Nat, (Blk wI b13 (Rfm.cells (decY ts x (tallyT ((svcK ts (tot xs) now r1 ⟨s, r1, []⟩ k).s) ((k : Nat) : Int)) (tot xs) now)) 57) ∧ (W2.heap.size ≤ b13) ∧ Keep none_ W2 wI ∧ e = [(4, pt b1), (6, pt b5), (7, pt b7), (10, pt b29), (11, nt ((k : Nat) : Int)), (13, pt b13), (14, nt (decE ts x (tallyT ((svcK ts (tot xs) now r1 ⟨s, r1, []⟩ k).s) ((k : Nat) : Int)) (tot xs) now))]) ?_ ?_
  ·
   have hk50 : Keep none_ W2 W2 := Keep.refl _ _
   refine V_draws (acts [4, 6, 8, 12, 13]) none_ [[2, 3, 4, 5, 6, 0, 1, 7, 8, 12, 9, 10, 13, 11, 14], [2, 3, 4, 5, 6, 12, 0, 1, 7, 8, 9, 10, 13, 11, 14], [2, 3, 4, 12, 5, 6, 0, 1, 7, 8, 9, 10, 13, 11, 14], [12, 2, 3, 4, 5, 6, 0, 1, 7, 8, 9, 10, 13, 11, 14]] (by kernel_rfl) (by repeat first | exact (by first | exact sure_postM | exact sure_rQ2 | exact sure_no) | refine sure_then ?_ | refine sure_block ?_ | refine sure_join ?_) (by kernel_rfl) ?_
   intro w52 hk51 he53 L hL54
   have hsz55 := Keep.size hk51
   replace jr := jr.keep hk51 (fun f => f)
   replace jb1 := jb1.keep hk51 (fun f => f)
   replace jb3 := jb3.keep hk51 (fun f => f)
   replace jb5 := jb5.keep hk51 (fun f => f)
   replace jb7 := jb7.keep hk51 (fun f => f)
   replace jb29 := jb29.keep hk51 (fun f => f)
   replace jbs36 := jbs36.keep hk51 (fun f => f)
   replace jbn37 := jbn37.keep hk51 (fun f => f)
   replace hb41_46 := hb41_46.keep hk51 (fun f => f)
   replace jA := SlT.keep0 jA hk51
   replace jA2 := SlT.keep0 jA2 hk51
   replace jAk := SlT.keep0 jAk hk51
   replace jhl := Led.keep jhl hk51 (fun _ _ f => f)
   replace jhK0 := Keep.tr jhK0 (Keep.ofNone hk51)
   replace jR := Rfr.keep jR hk51 (fun _ _ f => f)
   replace jV := VotT.keep jV hk51 (fun _ _ f => f)
   replace hfenb := Keep.tr hfenb (Keep.ofNone hk51)
   replace hk50 := Keep.tr hk50 (Keep.ofNone hk51)
   have qjr := jr
   have qjb1 := jb1
   have qjb3 := jb3
   have qjb5 := jb5
   have qjb7 := jb7
   have qjb29 := jb29
   have qjbs36 := jbs36
   have qjbn37 := jbn37
   have qhb41_46 := hb41_46
   have K56 : Keep none_ w52 w52 := Keep.refl _ _
   simp only [List.mem_cons, List.not_mem_nil, or_false] at hL54
   rcases hL54 with rfl | rfl | rfl | rfl
   ·
    refine Gc0 33 (.tmp 6) 0 (pt v) (some 49) qjb5 rfl ?_
    refine Gs [4, 5, 6, 0, 1, 7, 8, 12, 9, 10, 13, 11, 14] [(4, pt b1), (5, pt b3), (6, pt b5), (7, pt b7), (10, pt b29), (11, nt ((k : Nat) : Int)), (12, pt b41), (49, pt v), (50, nt ((k : Nat) : Int))] ?_
    refine Gk { callee := (Callee.value (Operand.func 32)), args := #[(Operand.tmp 49), (Operand.tmp 50)], argTypes := #[33, 3] } 32 #[pt v, nt ((k : Nat) : Int)] (some 51) (tally_spec Fk v ((svcK ts (tot xs) now r1 ⟨s, r1, []⟩ k).s) ((k : Nat) : Int) _ (jV).1) ?_
    rintro _ w59 ⟨rfl, hk60⟩
    have K61 := K56.tr (Keep.ofNone hk60)
    refine ⟨_, rfl, K61, ?_⟩
    have hzK61 := Keep.size K61
    have hsz62 := Keep.size hk60
    replace jr := jr.keep hk60 (fun f => f)
    replace jb1 := jb1.keep hk60 (fun f => f)
    replace jb3 := jb3.keep hk60 (fun f => f)
    replace jb5 := jb5.keep hk60 (fun f => f)
    replace jb7 := jb7.keep hk60 (fun f => f)
    replace jb29 := jb29.keep hk60 (fun f => f)
    replace jbs36 := jbs36.keep hk60 (fun f => f)
    replace jbn37 := jbn37.keep hk60 (fun f => f)
    replace hb41_46 := hb41_46.keep hk60 (fun f => f)
    replace jA := SlT.keep0 jA hk60
    replace jA2 := SlT.keep0 jA2 hk60
    replace jAk := SlT.keep0 jAk hk60
    replace jhl := Led.keep jhl hk60 (fun _ _ f => f)
    replace jhK0 := Keep.tr jhK0 (Keep.ofNone hk60)
    replace jR := Rfr.keep jR hk60 (fun _ _ f => f)
    replace jV := VotT.keep jV hk60 (fun _ _ f => f)
    replace hfenb := Keep.tr hfenb (Keep.ofNone hk60)
    replace hk50 := Keep.tr hk50 (Keep.ofNone hk60)
    refine Gc0 32 (.tmp 5) 0 (pt l) (some 52) qjb3 rfl ?_
    refine Gk { callee := (Callee.value (Operand.func 51)), args := #[(Operand.tmp 52)], argTypes := #[32] } 51 #[pt l] (some 53) (issued_spec G l xs cs _ jhl) ?_
    rintro _ w65 ⟨rfl, hk66⟩
    have K67 := K61.tr (Keep.ofNone hk66)
    refine ⟨_, rfl, K67, ?_⟩
    have hzK67 := Keep.size K67
    have hsz68 := Keep.size hk66
    replace jr := jr.keep hk66 (fun f => f)
    replace jb1 := jb1.keep hk66 (fun f => f)
    replace jb3 := jb3.keep hk66 (fun f => f)
    replace jb5 := jb5.keep hk66 (fun f => f)
    replace jb7 := jb7.keep hk66 (fun f => f)
    replace jb29 := jb29.keep hk66 (fun f => f)
    replace jbs36 := jbs36.keep hk66 (fun f => f)
    replace jbn37 := jbn37.keep hk66 (fun f => f)
    replace hb41_46 := hb41_46.keep hk66 (fun f => f)
    replace jA := SlT.keep0 jA hk66
    replace jA2 := SlT.keep0 jA2 hk66
    replace jAk := SlT.keep0 jAk hk66
    replace jhl := Led.keep jhl hk66 (fun _ _ f => f)
    replace jhK0 := Keep.tr jhK0 (Keep.ofNone hk66)
    replace jR := Rfr.keep jR hk66 (fun _ _ f => f)
    replace jV := VotT.keep jV hk66 (fun _ _ f => f)
    replace hfenb := Keep.tr hfenb (Keep.ofNone hk66)
    replace hk50 := Keep.tr hk50 (Keep.ofNone hk66)
    refine Gc0 34 (.tmp 4) 0 (pt r) (some 47) qjb1 rfl ?_
    refine Ga 57 (.tmp 12) 0 (Rfm.cells x) (some 48) 45 qhb41_46 (fun f => f) (take_all (Rfm.len _)) (Rfm.len _) ?_
    refine Gc0 3 (.tmp 7) 0 (nt now) (some 54) qjb7 rfl ?_
    refine Gk { callee := (Callee.value (Operand.func 50)), args := #[(Operand.tmp 47), (Operand.tmp 48), (Operand.tmp 51), (Operand.tmp 53), (Operand.tmp 54)], argTypes := #[34, 57, 55, 3, 3] } 50 #[pt r, .agg (Rfm.cells x).toArray, .agg (Tly.cells (tallyT ((svcK ts (tot xs) now r1 ⟨s, r1, []⟩ k).s) ((k : Nat) : Int))).toArray, nt (tot xs), nt now] (some 55) (decides_spec Hk r g ts (svcK ts (tot xs) now r1 ⟨s, r1, []⟩ k).rs x (tallyT ((svcK ts (tot xs) now r1 ⟨s, r1, []⟩ k).s) ((k : Nat) : Int)) (tot xs) now _ jR hxt) ?_
    rintro _ w69 ⟨rfl, hk70⟩
    have K71 := K67.tr (Keep.ofNone hk70)
    refine ⟨_, rfl, K71, ?_⟩
    have hzK71 := Keep.size K71
    have hsz72 := Keep.size hk70
    replace jr := jr.keep hk70 (fun f => f)
    replace jb1 := jb1.keep hk70 (fun f => f)
    replace jb3 := jb3.keep hk70 (fun f => f)
    replace jb5 := jb5.keep hk70 (fun f => f)
    replace jb7 := jb7.keep hk70 (fun f => f)
    replace jb29 := jb29.keep hk70 (fun f => f)
    replace jbs36 := jbs36.keep hk70 (fun f => f)
    replace jbn37 := jbn37.keep hk70 (fun f => f)
    replace hb41_46 := hb41_46.keep hk70 (fun f => f)
    replace jA := SlT.keep0 jA hk70
    replace jA2 := SlT.keep0 jA2 hk70
    replace jAk := SlT.keep0 jAk hk70
    replace jhl := Led.keep jhl hk70 (fun _ _ f => f)
    replace jhK0 := Keep.tr jhK0 (Keep.ofNone hk70)
    replace jR := Rfr.keep jR hk70 (fun _ _ f => f)
    replace jV := VotT.keep jV hk70 (fun _ _ f => f)
    replace hfenb := Keep.tr hfenb (Keep.ofNone hk70)
    replace hk50 := Keep.tr hk50 (Keep.ofNone hk70)
    refine GI_alloc 57 (.agg (Rfm.cells Rfm.zero).toArray) (Rfm.cells Rfm.zero) (some 13) (by kernel_rfl) (by kernel_rfl) K71 (by kernel_rfl) (by kernel_rfl) ?_
    intro b73 w73 e73 hb73 k73 z73 K74
    have hsz75 := Keep.size k73
    replace jr := jr.keep k73 (fun f => f)
    replace jb1 := jb1.keep k73 (fun f => f)
    replace jb3 := jb3.keep k73 (fun f => f)
    replace jb5 := jb5.keep k73 (fun f => f)
    replace jb7 := jb7.keep k73 (fun f => f)
    replace jb29 := jb29.keep k73 (fun f => f)
    replace jbs36 := jbs36.keep k73 (fun f => f)
    replace jbn37 := jbn37.keep k73 (fun f => f)
    replace hb41_46 := hb41_46.keep k73 (fun f => f)
    replace jA := SlT.keep0 jA k73
    replace jA2 := SlT.keep0 jA2 k73
    replace jAk := SlT.keep0 jAk k73
    replace jhl := Led.keep jhl k73 (fun _ _ f => f)
    replace jhK0 := Keep.tr jhK0 (Keep.ofNone k73)
    replace jR := Rfr.keep jR k73 (fun _ _ f => f)
    replace jV := VotT.keep jV k73 (fun _ _ f => f)
    replace hfenb := Keep.tr hfenb (Keep.ofNone k73)
    replace hk50 := Keep.tr hk50 (Keep.ofNone k73)
    have hb73lt := hb73.lt
    refine Gs [13, 11, 14] [(4, pt b1), (6, pt b5), (7, pt b7), (10, pt b29), (11, nt ((k : Nat) : Int)), (13, pt b73), (46, .tuple #[.agg (Rfm.cells (decY ts x (tallyT ((svcK ts (tot xs) now r1 ⟨s, r1, []⟩ k).s) ((k : Nat) : Int)) (tot xs) now)).toArray, nt (decE ts x (tallyT ((svcK ts (tot xs) now r1 ⟨s, r1, []⟩ k).s) ((k : Nat) : Int)) (tot xs) now)]), (56, .agg (Rfm.cells (decY ts x (tallyT ((svcK ts (tot xs) now r1 ⟨s, r1, []⟩ k).s) ((k : Nat) : Int)) (tot xs) now)).toArray)] ?_
    refine GI_set (m := 45) (kd := true) 57 (.tmp 13) (.tmp 56) 0 (.agg (Rfm.cells (decY ts x (tallyT ((svcK ts (tot xs) now r1 ⟨s, r1, []⟩ k).s) ((k : Nat) : Int)) (tot xs) now)).toArray) (Rfm.cells (decY ts x (tallyT ((svcK ts (tot xs) now r1 ⟨s, r1, []⟩ k).s) ((k : Nat) : Int)) (tot xs) now)) none (by kernel_rfl) (by kernel_rfl) (by kernel_rfl) (by kernel_rfl) hb73 (by kernel_rfl) rfl (Rfm.len _) (Nat.le_of_ble_eq_true (by kernel_rfl)) (Rfm.one _) K74 (fun hh => absurd hh (by omega)) ?_
    intro w76 hb73_79 hk77 hz78 K80
    replace hb73_79 : Blk w76 b73 (Rfm.cells (decY ts x (tallyT ((svcK ts (tot xs) now r1 ⟨s, r1, []⟩ k).s) ((k : Nat) : Int)) (tot xs) now)) 57 := (Blk.eqL (Rfm.over _ _) hb73_79)
    have hsz81 := Keep.size hk77
    replace jr := jr.keep hk77 (by show ¬ (_ = _); omega)
    replace jb1 := jb1.keep hk77 (by show ¬ (_ = _); omega)
    replace jb3 := jb3.keep hk77 (by show ¬ (_ = _); omega)
    replace jb5 := jb5.keep hk77 (by show ¬ (_ = _); omega)
    replace jb7 := jb7.keep hk77 (by show ¬ (_ = _); omega)
    replace jb29 := jb29.keep hk77 (by show ¬ (_ = _); omega)
    replace jbs36 := jbs36.keep hk77 (by show ¬ (_ = _); omega)
    replace jbn37 := jbn37.keep hk77 (by show ¬ (_ = _); omega)
    replace hb41_46 := hb41_46.keep hk77 (by show ¬ (_ = _); omega)
    replace jA := SlT.keep jA hk77 (fun q hq hs => by have hs : q = b73 := hs; have g0 := hAr q hq; have g1 := ltjA q hq; omega)
    replace jA2 := SlT.keep jA2 hk77 (fun q hq hs => by have hs : q = b73 := hs; have g0 := owA2 q hq; have g1 := ltjA2 q hq; omega)
    replace jAk := SlT.keep jAk hk77 (fun q hq hs => by have hs : q = b73 := hs; have g0 := ownk q hq; have g1 := ltjAk q hq; omega)
    replace jhl := Led.keep jhl hk77 (fun q hq hs => by have hs : q = b73 := hs; have g0 := hlr q hq; have g1 := hGlt q hq; omega)
    replace jhK0 := Keep.fresh jhK0 hk77 (by intro i hi hs; first | exact hs | exact Or.inl hs | exact Or.inr hs | (exfalso; have hs2 : i = b73 := hs; omega))
    replace jR := Rfr.keep jR hk77 (fun q hq hs => by have hs : q = b73 := hs; have g0 := hHko q hq; have g1 := lt39 q hq; omega)
    replace jV := VotT.keep jV hk77 (fun q hq hs => by have hs : q = b73 := hs; have g0 := hFko q hq; have g1 := lt40 q hq; omega)
    replace hfenb := Keep.fresh hfenb hk77 (by intro i hi hs; have hs2 : i = b73 := hs; show _ ∨ _; omega)
    replace hk50 := Keep.fresh hk50 hk77 (by intro i hi hs; first | exact hs | exact Or.inl hs | exact Or.inr hs | (exfalso; have hs2 : i = b73 := hs; omega))
    refine Gs [] [(4, pt b1), (6, pt b5), (7, pt b7), (10, pt b29), (11, nt ((k : Nat) : Int)), (13, pt b73), (14, nt (decE ts x (tallyT ((svcK ts (tot xs) now r1 ⟨s, r1, []⟩ k).s) ((k : Nat) : Int)) (tot xs) now))] ?_
    refine GI_end ?_
    exact X_join [(4, pt b1), (6, pt b5), (7, pt b7), (10, pt b29), (11, nt ((k : Nat) : Int)), (13, pt b73), (14, nt (decE ts x (tallyT ((svcK ts (tot xs) now r1 ⟨s, r1, []⟩ k).s) ((k : Nat) : Int)) (tot xs) now))] rfl ⟨b73, hb73_79, by omega, hk50, rfl⟩
   ·
    refine Gc0 33 (.tmp 6) 0 (pt v) (some 49) qjb5 rfl ?_
    refine Gs [4, 5, 6, 12, 0, 1, 7, 8, 9, 10, 13, 11, 14] [(4, pt b1), (5, pt b3), (6, pt b5), (7, pt b7), (10, pt b29), (11, nt ((k : Nat) : Int)), (12, pt b41), (49, pt v), (50, nt ((k : Nat) : Int))] ?_
    refine Gk { callee := (Callee.value (Operand.func 32)), args := #[(Operand.tmp 49), (Operand.tmp 50)], argTypes := #[33, 3] } 32 #[pt v, nt ((k : Nat) : Int)] (some 51) (tally_spec Fk v ((svcK ts (tot xs) now r1 ⟨s, r1, []⟩ k).s) ((k : Nat) : Int) _ (jV).1) ?_
    rintro _ w84 ⟨rfl, hk85⟩
    have K86 := K56.tr (Keep.ofNone hk85)
    refine ⟨_, rfl, K86, ?_⟩
    have hzK86 := Keep.size K86
    have hsz87 := Keep.size hk85
    replace jr := jr.keep hk85 (fun f => f)
    replace jb1 := jb1.keep hk85 (fun f => f)
    replace jb3 := jb3.keep hk85 (fun f => f)
    replace jb5 := jb5.keep hk85 (fun f => f)
    replace jb7 := jb7.keep hk85 (fun f => f)
    replace jb29 := jb29.keep hk85 (fun f => f)
    replace jbs36 := jbs36.keep hk85 (fun f => f)
    replace jbn37 := jbn37.keep hk85 (fun f => f)
    replace hb41_46 := hb41_46.keep hk85 (fun f => f)
    replace jA := SlT.keep0 jA hk85
    replace jA2 := SlT.keep0 jA2 hk85
    replace jAk := SlT.keep0 jAk hk85
    replace jhl := Led.keep jhl hk85 (fun _ _ f => f)
    replace jhK0 := Keep.tr jhK0 (Keep.ofNone hk85)
    replace jR := Rfr.keep jR hk85 (fun _ _ f => f)
    replace jV := VotT.keep jV hk85 (fun _ _ f => f)
    replace hfenb := Keep.tr hfenb (Keep.ofNone hk85)
    replace hk50 := Keep.tr hk50 (Keep.ofNone hk85)
    refine Gc0 32 (.tmp 5) 0 (pt l) (some 52) qjb3 rfl ?_
    refine Gk { callee := (Callee.value (Operand.func 51)), args := #[(Operand.tmp 52)], argTypes := #[32] } 51 #[pt l] (some 53) (issued_spec G l xs cs _ jhl) ?_
    rintro _ w90 ⟨rfl, hk91⟩
    have K92 := K86.tr (Keep.ofNone hk91)
    refine ⟨_, rfl, K92, ?_⟩
    have hzK92 := Keep.size K92
    have hsz93 := Keep.size hk91
    replace jr := jr.keep hk91 (fun f => f)
    replace jb1 := jb1.keep hk91 (fun f => f)
    replace jb3 := jb3.keep hk91 (fun f => f)
    replace jb5 := jb5.keep hk91 (fun f => f)
    replace jb7 := jb7.keep hk91 (fun f => f)
    replace jb29 := jb29.keep hk91 (fun f => f)
    replace jbs36 := jbs36.keep hk91 (fun f => f)
    replace jbn37 := jbn37.keep hk91 (fun f => f)
    replace hb41_46 := hb41_46.keep hk91 (fun f => f)
    replace jA := SlT.keep0 jA hk91
    replace jA2 := SlT.keep0 jA2 hk91
    replace jAk := SlT.keep0 jAk hk91
    replace jhl := Led.keep jhl hk91 (fun _ _ f => f)
    replace jhK0 := Keep.tr jhK0 (Keep.ofNone hk91)
    replace jR := Rfr.keep jR hk91 (fun _ _ f => f)
    replace jV := VotT.keep jV hk91 (fun _ _ f => f)
    replace hfenb := Keep.tr hfenb (Keep.ofNone hk91)
    replace hk50 := Keep.tr hk50 (Keep.ofNone hk91)
    refine GI_alloc 57 (.agg (Rfm.cells Rfm.zero).toArray) (Rfm.cells Rfm.zero) (some 13) (by kernel_rfl) (by kernel_rfl) K92 (by kernel_rfl) (by kernel_rfl) ?_
    intro b94 w94 e94 hb94 k94 z94 K95
    have hsz96 := Keep.size k94
    replace jr := jr.keep k94 (fun f => f)
    replace jb1 := jb1.keep k94 (fun f => f)
    replace jb3 := jb3.keep k94 (fun f => f)
    replace jb5 := jb5.keep k94 (fun f => f)
    replace jb7 := jb7.keep k94 (fun f => f)
    replace jb29 := jb29.keep k94 (fun f => f)
    replace jbs36 := jbs36.keep k94 (fun f => f)
    replace jbn37 := jbn37.keep k94 (fun f => f)
    replace hb41_46 := hb41_46.keep k94 (fun f => f)
    replace jA := SlT.keep0 jA k94
    replace jA2 := SlT.keep0 jA2 k94
    replace jAk := SlT.keep0 jAk k94
    replace jhl := Led.keep jhl k94 (fun _ _ f => f)
    replace jhK0 := Keep.tr jhK0 (Keep.ofNone k94)
    replace jR := Rfr.keep jR k94 (fun _ _ f => f)
    replace jV := VotT.keep jV k94 (fun _ _ f => f)
    replace hfenb := Keep.tr hfenb (Keep.ofNone k94)
    replace hk50 := Keep.tr hk50 (Keep.ofNone k94)
    have hb94lt := hb94.lt
    refine Gc0 34 (.tmp 4) 0 (pt r) (some 47) qjb1 rfl ?_
    refine Ga 57 (.tmp 12) 0 (Rfm.cells x) (some 48) 45 qhb41_46 (fun f => f) (take_all (Rfm.len _)) (Rfm.len _) ?_
    refine Gc0 3 (.tmp 7) 0 (nt now) (some 54) qjb7 rfl ?_
    refine Gk { callee := (Callee.value (Operand.func 50)), args := #[(Operand.tmp 47), (Operand.tmp 48), (Operand.tmp 51), (Operand.tmp 53), (Operand.tmp 54)], argTypes := #[34, 57, 55, 3, 3] } 50 #[pt r, .agg (Rfm.cells x).toArray, .agg (Tly.cells (tallyT ((svcK ts (tot xs) now r1 ⟨s, r1, []⟩ k).s) ((k : Nat) : Int))).toArray, nt (tot xs), nt now] (some 55) (decides_spec Hk r g ts (svcK ts (tot xs) now r1 ⟨s, r1, []⟩ k).rs x (tallyT ((svcK ts (tot xs) now r1 ⟨s, r1, []⟩ k).s) ((k : Nat) : Int)) (tot xs) now _ jR hxt) ?_
    rintro _ w97 ⟨rfl, hk98⟩
    have K99 := K95.tr (Keep.ofNone hk98)
    refine ⟨_, rfl, K99, ?_⟩
    have hzK99 := Keep.size K99
    have hsz100 := Keep.size hk98
    replace jr := jr.keep hk98 (fun f => f)
    replace jb1 := jb1.keep hk98 (fun f => f)
    replace jb3 := jb3.keep hk98 (fun f => f)
    replace jb5 := jb5.keep hk98 (fun f => f)
    replace jb7 := jb7.keep hk98 (fun f => f)
    replace jb29 := jb29.keep hk98 (fun f => f)
    replace jbs36 := jbs36.keep hk98 (fun f => f)
    replace jbn37 := jbn37.keep hk98 (fun f => f)
    replace hb41_46 := hb41_46.keep hk98 (fun f => f)
    replace hb94 := hb94.keep hk98 (fun f => f)
    replace jA := SlT.keep0 jA hk98
    replace jA2 := SlT.keep0 jA2 hk98
    replace jAk := SlT.keep0 jAk hk98
    replace jhl := Led.keep jhl hk98 (fun _ _ f => f)
    replace jhK0 := Keep.tr jhK0 (Keep.ofNone hk98)
    replace jR := Rfr.keep jR hk98 (fun _ _ f => f)
    replace jV := VotT.keep jV hk98 (fun _ _ f => f)
    replace hfenb := Keep.tr hfenb (Keep.ofNone hk98)
    replace hk50 := Keep.tr hk50 (Keep.ofNone hk98)
    refine Gs [13, 11, 14] [(4, pt b1), (6, pt b5), (7, pt b7), (10, pt b29), (11, nt ((k : Nat) : Int)), (13, pt b94), (46, .tuple #[.agg (Rfm.cells (decY ts x (tallyT ((svcK ts (tot xs) now r1 ⟨s, r1, []⟩ k).s) ((k : Nat) : Int)) (tot xs) now)).toArray, nt (decE ts x (tallyT ((svcK ts (tot xs) now r1 ⟨s, r1, []⟩ k).s) ((k : Nat) : Int)) (tot xs) now)]), (56, .agg (Rfm.cells (decY ts x (tallyT ((svcK ts (tot xs) now r1 ⟨s, r1, []⟩ k).s) ((k : Nat) : Int)) (tot xs) now)).toArray)] ?_
    refine GI_set (m := 45) (kd := true) 57 (.tmp 13) (.tmp 56) 0 (.agg (Rfm.cells (decY ts x (tallyT ((svcK ts (tot xs) now r1 ⟨s, r1, []⟩ k).s) ((k : Nat) : Int)) (tot xs) now)).toArray) (Rfm.cells (decY ts x (tallyT ((svcK ts (tot xs) now r1 ⟨s, r1, []⟩ k).s) ((k : Nat) : Int)) (tot xs) now)) none (by kernel_rfl) (by kernel_rfl) (by kernel_rfl) (by kernel_rfl) hb94 (by kernel_rfl) rfl (Rfm.len _) (Nat.le_of_ble_eq_true (by kernel_rfl)) (Rfm.one _) K99 (fun hh => absurd hh (by omega)) ?_
    intro w101 hb94_104 hk102 hz103 K105
    replace hb94_104 : Blk w101 b94 (Rfm.cells (decY ts x (tallyT ((svcK ts (tot xs) now r1 ⟨s, r1, []⟩ k).s) ((k : Nat) : Int)) (tot xs) now)) 57 := (Blk.eqL (Rfm.over _ _) hb94_104)
    have hsz106 := Keep.size hk102
    replace jr := jr.keep hk102 (by show ¬ (_ = _); omega)
    replace jb1 := jb1.keep hk102 (by show ¬ (_ = _); omega)
    replace jb3 := jb3.keep hk102 (by show ¬ (_ = _); omega)
    replace jb5 := jb5.keep hk102 (by show ¬ (_ = _); omega)
    replace jb7 := jb7.keep hk102 (by show ¬ (_ = _); omega)
    replace jb29 := jb29.keep hk102 (by show ¬ (_ = _); omega)
    replace jbs36 := jbs36.keep hk102 (by show ¬ (_ = _); omega)
    replace jbn37 := jbn37.keep hk102 (by show ¬ (_ = _); omega)
    replace hb41_46 := hb41_46.keep hk102 (by show ¬ (_ = _); omega)
    replace jA := SlT.keep jA hk102 (fun q hq hs => by have hs : q = b94 := hs; have g0 := hAr q hq; have g1 := ltjA q hq; omega)
    replace jA2 := SlT.keep jA2 hk102 (fun q hq hs => by have hs : q = b94 := hs; have g0 := owA2 q hq; have g1 := ltjA2 q hq; omega)
    replace jAk := SlT.keep jAk hk102 (fun q hq hs => by have hs : q = b94 := hs; have g0 := ownk q hq; have g1 := ltjAk q hq; omega)
    replace jhl := Led.keep jhl hk102 (fun q hq hs => by have hs : q = b94 := hs; have g0 := hlr q hq; have g1 := hGlt q hq; omega)
    replace jhK0 := Keep.fresh jhK0 hk102 (by intro i hi hs; first | exact hs | exact Or.inl hs | exact Or.inr hs | (exfalso; have hs2 : i = b94 := hs; omega))
    replace jR := Rfr.keep jR hk102 (fun q hq hs => by have hs : q = b94 := hs; have g0 := hHko q hq; have g1 := lt39 q hq; omega)
    replace jV := VotT.keep jV hk102 (fun q hq hs => by have hs : q = b94 := hs; have g0 := hFko q hq; have g1 := lt40 q hq; omega)
    replace hfenb := Keep.fresh hfenb hk102 (by intro i hi hs; have hs2 : i = b94 := hs; show _ ∨ _; omega)
    replace hk50 := Keep.fresh hk50 hk102 (by intro i hi hs; first | exact hs | exact Or.inl hs | exact Or.inr hs | (exfalso; have hs2 : i = b94 := hs; omega))
    refine Gs [] [(4, pt b1), (6, pt b5), (7, pt b7), (10, pt b29), (11, nt ((k : Nat) : Int)), (13, pt b94), (14, nt (decE ts x (tallyT ((svcK ts (tot xs) now r1 ⟨s, r1, []⟩ k).s) ((k : Nat) : Int)) (tot xs) now))] ?_
    refine GI_end ?_
    exact X_join [(4, pt b1), (6, pt b5), (7, pt b7), (10, pt b29), (11, nt ((k : Nat) : Int)), (13, pt b94), (14, nt (decE ts x (tallyT ((svcK ts (tot xs) now r1 ⟨s, r1, []⟩ k).s) ((k : Nat) : Int)) (tot xs) now))] rfl ⟨b94, hb94_104, by omega, hk50, rfl⟩
   ·
    refine Gc0 33 (.tmp 6) 0 (pt v) (some 49) qjb5 rfl ?_
    refine Gs [4, 12, 5, 6, 0, 1, 7, 8, 9, 10, 13, 11, 14] [(4, pt b1), (5, pt b3), (6, pt b5), (7, pt b7), (10, pt b29), (11, nt ((k : Nat) : Int)), (12, pt b41), (49, pt v), (50, nt ((k : Nat) : Int))] ?_
    refine Gk { callee := (Callee.value (Operand.func 32)), args := #[(Operand.tmp 49), (Operand.tmp 50)], argTypes := #[33, 3] } 32 #[pt v, nt ((k : Nat) : Int)] (some 51) (tally_spec Fk v ((svcK ts (tot xs) now r1 ⟨s, r1, []⟩ k).s) ((k : Nat) : Int) _ (jV).1) ?_
    rintro _ w109 ⟨rfl, hk110⟩
    have K111 := K56.tr (Keep.ofNone hk110)
    refine ⟨_, rfl, K111, ?_⟩
    have hzK111 := Keep.size K111
    have hsz112 := Keep.size hk110
    replace jr := jr.keep hk110 (fun f => f)
    replace jb1 := jb1.keep hk110 (fun f => f)
    replace jb3 := jb3.keep hk110 (fun f => f)
    replace jb5 := jb5.keep hk110 (fun f => f)
    replace jb7 := jb7.keep hk110 (fun f => f)
    replace jb29 := jb29.keep hk110 (fun f => f)
    replace jbs36 := jbs36.keep hk110 (fun f => f)
    replace jbn37 := jbn37.keep hk110 (fun f => f)
    replace hb41_46 := hb41_46.keep hk110 (fun f => f)
    replace jA := SlT.keep0 jA hk110
    replace jA2 := SlT.keep0 jA2 hk110
    replace jAk := SlT.keep0 jAk hk110
    replace jhl := Led.keep jhl hk110 (fun _ _ f => f)
    replace jhK0 := Keep.tr jhK0 (Keep.ofNone hk110)
    replace jR := Rfr.keep jR hk110 (fun _ _ f => f)
    replace jV := VotT.keep jV hk110 (fun _ _ f => f)
    replace hfenb := Keep.tr hfenb (Keep.ofNone hk110)
    replace hk50 := Keep.tr hk50 (Keep.ofNone hk110)
    refine GI_alloc 57 (.agg (Rfm.cells Rfm.zero).toArray) (Rfm.cells Rfm.zero) (some 13) (by kernel_rfl) (by kernel_rfl) K111 (by kernel_rfl) (by kernel_rfl) ?_
    intro b113 w113 e113 hb113 k113 z113 K114
    have hsz115 := Keep.size k113
    replace jr := jr.keep k113 (fun f => f)
    replace jb1 := jb1.keep k113 (fun f => f)
    replace jb3 := jb3.keep k113 (fun f => f)
    replace jb5 := jb5.keep k113 (fun f => f)
    replace jb7 := jb7.keep k113 (fun f => f)
    replace jb29 := jb29.keep k113 (fun f => f)
    replace jbs36 := jbs36.keep k113 (fun f => f)
    replace jbn37 := jbn37.keep k113 (fun f => f)
    replace hb41_46 := hb41_46.keep k113 (fun f => f)
    replace jA := SlT.keep0 jA k113
    replace jA2 := SlT.keep0 jA2 k113
    replace jAk := SlT.keep0 jAk k113
    replace jhl := Led.keep jhl k113 (fun _ _ f => f)
    replace jhK0 := Keep.tr jhK0 (Keep.ofNone k113)
    replace jR := Rfr.keep jR k113 (fun _ _ f => f)
    replace jV := VotT.keep jV k113 (fun _ _ f => f)
    replace hfenb := Keep.tr hfenb (Keep.ofNone k113)
    replace hk50 := Keep.tr hk50 (Keep.ofNone k113)
    have hb113lt := hb113.lt
    refine Gc0 32 (.tmp 5) 0 (pt l) (some 52) qjb3 rfl ?_
    refine Gk { callee := (Callee.value (Operand.func 51)), args := #[(Operand.tmp 52)], argTypes := #[32] } 51 #[pt l] (some 53) (issued_spec G l xs cs _ jhl) ?_
    rintro _ w118 ⟨rfl, hk119⟩
    have K120 := K114.tr (Keep.ofNone hk119)
    refine ⟨_, rfl, K120, ?_⟩
    have hzK120 := Keep.size K120
    have hsz121 := Keep.size hk119
    replace jr := jr.keep hk119 (fun f => f)
    replace jb1 := jb1.keep hk119 (fun f => f)
    replace jb3 := jb3.keep hk119 (fun f => f)
    replace jb5 := jb5.keep hk119 (fun f => f)
    replace jb7 := jb7.keep hk119 (fun f => f)
    replace jb29 := jb29.keep hk119 (fun f => f)
    replace jbs36 := jbs36.keep hk119 (fun f => f)
    replace jbn37 := jbn37.keep hk119 (fun f => f)
    replace hb41_46 := hb41_46.keep hk119 (fun f => f)
    replace hb113 := hb113.keep hk119 (fun f => f)
    replace jA := SlT.keep0 jA hk119
    replace jA2 := SlT.keep0 jA2 hk119
    replace jAk := SlT.keep0 jAk hk119
    replace jhl := Led.keep jhl hk119 (fun _ _ f => f)
    replace jhK0 := Keep.tr jhK0 (Keep.ofNone hk119)
    replace jR := Rfr.keep jR hk119 (fun _ _ f => f)
    replace jV := VotT.keep jV hk119 (fun _ _ f => f)
    replace hfenb := Keep.tr hfenb (Keep.ofNone hk119)
    replace hk50 := Keep.tr hk50 (Keep.ofNone hk119)
    refine Gc0 34 (.tmp 4) 0 (pt r) (some 47) qjb1 rfl ?_
    refine Ga 57 (.tmp 12) 0 (Rfm.cells x) (some 48) 45 qhb41_46 (fun f => f) (take_all (Rfm.len _)) (Rfm.len _) ?_
    refine Gc0 3 (.tmp 7) 0 (nt now) (some 54) qjb7 rfl ?_
    refine Gk { callee := (Callee.value (Operand.func 50)), args := #[(Operand.tmp 47), (Operand.tmp 48), (Operand.tmp 51), (Operand.tmp 53), (Operand.tmp 54)], argTypes := #[34, 57, 55, 3, 3] } 50 #[pt r, .agg (Rfm.cells x).toArray, .agg (Tly.cells (tallyT ((svcK ts (tot xs) now r1 ⟨s, r1, []⟩ k).s) ((k : Nat) : Int))).toArray, nt (tot xs), nt now] (some 55) (decides_spec Hk r g ts (svcK ts (tot xs) now r1 ⟨s, r1, []⟩ k).rs x (tallyT ((svcK ts (tot xs) now r1 ⟨s, r1, []⟩ k).s) ((k : Nat) : Int)) (tot xs) now _ jR hxt) ?_
    rintro _ w122 ⟨rfl, hk123⟩
    have K124 := K120.tr (Keep.ofNone hk123)
    refine ⟨_, rfl, K124, ?_⟩
    have hzK124 := Keep.size K124
    have hsz125 := Keep.size hk123
    replace jr := jr.keep hk123 (fun f => f)
    replace jb1 := jb1.keep hk123 (fun f => f)
    replace jb3 := jb3.keep hk123 (fun f => f)
    replace jb5 := jb5.keep hk123 (fun f => f)
    replace jb7 := jb7.keep hk123 (fun f => f)
    replace jb29 := jb29.keep hk123 (fun f => f)
    replace jbs36 := jbs36.keep hk123 (fun f => f)
    replace jbn37 := jbn37.keep hk123 (fun f => f)
    replace hb41_46 := hb41_46.keep hk123 (fun f => f)
    replace hb113 := hb113.keep hk123 (fun f => f)
    replace jA := SlT.keep0 jA hk123
    replace jA2 := SlT.keep0 jA2 hk123
    replace jAk := SlT.keep0 jAk hk123
    replace jhl := Led.keep jhl hk123 (fun _ _ f => f)
    replace jhK0 := Keep.tr jhK0 (Keep.ofNone hk123)
    replace jR := Rfr.keep jR hk123 (fun _ _ f => f)
    replace jV := VotT.keep jV hk123 (fun _ _ f => f)
    replace hfenb := Keep.tr hfenb (Keep.ofNone hk123)
    replace hk50 := Keep.tr hk50 (Keep.ofNone hk123)
    refine Gs [13, 11, 14] [(4, pt b1), (6, pt b5), (7, pt b7), (10, pt b29), (11, nt ((k : Nat) : Int)), (13, pt b113), (46, .tuple #[.agg (Rfm.cells (decY ts x (tallyT ((svcK ts (tot xs) now r1 ⟨s, r1, []⟩ k).s) ((k : Nat) : Int)) (tot xs) now)).toArray, nt (decE ts x (tallyT ((svcK ts (tot xs) now r1 ⟨s, r1, []⟩ k).s) ((k : Nat) : Int)) (tot xs) now)]), (56, .agg (Rfm.cells (decY ts x (tallyT ((svcK ts (tot xs) now r1 ⟨s, r1, []⟩ k).s) ((k : Nat) : Int)) (tot xs) now)).toArray)] ?_
    refine GI_set (m := 45) (kd := true) 57 (.tmp 13) (.tmp 56) 0 (.agg (Rfm.cells (decY ts x (tallyT ((svcK ts (tot xs) now r1 ⟨s, r1, []⟩ k).s) ((k : Nat) : Int)) (tot xs) now)).toArray) (Rfm.cells (decY ts x (tallyT ((svcK ts (tot xs) now r1 ⟨s, r1, []⟩ k).s) ((k : Nat) : Int)) (tot xs) now)) none (by kernel_rfl) (by kernel_rfl) (by kernel_rfl) (by kernel_rfl) hb113 (by kernel_rfl) rfl (Rfm.len _) (Nat.le_of_ble_eq_true (by kernel_rfl)) (Rfm.one _) K124 (fun hh => absurd hh (by omega)) ?_
    intro w126 hb113_129 hk127 hz128 K130
    replace hb113_129 : Blk w126 b113 (Rfm.cells (decY ts x (tallyT ((svcK ts (tot xs) now r1 ⟨s, r1, []⟩ k).s) ((k : Nat) : Int)) (tot xs) now)) 57 := (Blk.eqL (Rfm.over _ _) hb113_129)
    have hsz131 := Keep.size hk127
    replace jr := jr.keep hk127 (by show ¬ (_ = _); omega)
    replace jb1 := jb1.keep hk127 (by show ¬ (_ = _); omega)
    replace jb3 := jb3.keep hk127 (by show ¬ (_ = _); omega)
    replace jb5 := jb5.keep hk127 (by show ¬ (_ = _); omega)
    replace jb7 := jb7.keep hk127 (by show ¬ (_ = _); omega)
    replace jb29 := jb29.keep hk127 (by show ¬ (_ = _); omega)
    replace jbs36 := jbs36.keep hk127 (by show ¬ (_ = _); omega)
    replace jbn37 := jbn37.keep hk127 (by show ¬ (_ = _); omega)
    replace hb41_46 := hb41_46.keep hk127 (by show ¬ (_ = _); omega)
    replace jA := SlT.keep jA hk127 (fun q hq hs => by have hs : q = b113 := hs; have g0 := hAr q hq; have g1 := ltjA q hq; omega)
    replace jA2 := SlT.keep jA2 hk127 (fun q hq hs => by have hs : q = b113 := hs; have g0 := owA2 q hq; have g1 := ltjA2 q hq; omega)
    replace jAk := SlT.keep jAk hk127 (fun q hq hs => by have hs : q = b113 := hs; have g0 := ownk q hq; have g1 := ltjAk q hq; omega)
    replace jhl := Led.keep jhl hk127 (fun q hq hs => by have hs : q = b113 := hs; have g0 := hlr q hq; have g1 := hGlt q hq; omega)
    replace jhK0 := Keep.fresh jhK0 hk127 (by intro i hi hs; first | exact hs | exact Or.inl hs | exact Or.inr hs | (exfalso; have hs2 : i = b113 := hs; omega))
    replace jR := Rfr.keep jR hk127 (fun q hq hs => by have hs : q = b113 := hs; have g0 := hHko q hq; have g1 := lt39 q hq; omega)
    replace jV := VotT.keep jV hk127 (fun q hq hs => by have hs : q = b113 := hs; have g0 := hFko q hq; have g1 := lt40 q hq; omega)
    replace hfenb := Keep.fresh hfenb hk127 (by intro i hi hs; have hs2 : i = b113 := hs; show _ ∨ _; omega)
    replace hk50 := Keep.fresh hk50 hk127 (by intro i hi hs; first | exact hs | exact Or.inl hs | exact Or.inr hs | (exfalso; have hs2 : i = b113 := hs; omega))
    refine Gs [] [(4, pt b1), (6, pt b5), (7, pt b7), (10, pt b29), (11, nt ((k : Nat) : Int)), (13, pt b113), (14, nt (decE ts x (tallyT ((svcK ts (tot xs) now r1 ⟨s, r1, []⟩ k).s) ((k : Nat) : Int)) (tot xs) now))] ?_
    refine GI_end ?_
    exact X_join [(4, pt b1), (6, pt b5), (7, pt b7), (10, pt b29), (11, nt ((k : Nat) : Int)), (13, pt b113), (14, nt (decE ts x (tallyT ((svcK ts (tot xs) now r1 ⟨s, r1, []⟩ k).s) ((k : Nat) : Int)) (tot xs) now))] rfl ⟨b113, hb113_129, by omega, hk50, rfl⟩
   ·
    refine GI_alloc 57 (.agg (Rfm.cells Rfm.zero).toArray) (Rfm.cells Rfm.zero) (some 13) (by kernel_rfl) (by kernel_rfl) K56 (by kernel_rfl) (by kernel_rfl) ?_
    intro b132 w132 e132 hb132 k132 z132 K133
    have hsz134 := Keep.size k132
    replace jr := jr.keep k132 (fun f => f)
    replace jb1 := jb1.keep k132 (fun f => f)
    replace jb3 := jb3.keep k132 (fun f => f)
    replace jb5 := jb5.keep k132 (fun f => f)
    replace jb7 := jb7.keep k132 (fun f => f)
    replace jb29 := jb29.keep k132 (fun f => f)
    replace jbs36 := jbs36.keep k132 (fun f => f)
    replace jbn37 := jbn37.keep k132 (fun f => f)
    replace hb41_46 := hb41_46.keep k132 (fun f => f)
    replace jA := SlT.keep0 jA k132
    replace jA2 := SlT.keep0 jA2 k132
    replace jAk := SlT.keep0 jAk k132
    replace jhl := Led.keep jhl k132 (fun _ _ f => f)
    replace jhK0 := Keep.tr jhK0 (Keep.ofNone k132)
    replace jR := Rfr.keep jR k132 (fun _ _ f => f)
    replace jV := VotT.keep jV k132 (fun _ _ f => f)
    replace hfenb := Keep.tr hfenb (Keep.ofNone k132)
    replace hk50 := Keep.tr hk50 (Keep.ofNone k132)
    have hb132lt := hb132.lt
    refine Gc0 33 (.tmp 6) 0 (pt v) (some 49) qjb5 rfl ?_
    refine Gs [4, 5, 6, 0, 1, 7, 8, 9, 10, 13, 11, 14] [(4, pt b1), (5, pt b3), (6, pt b5), (7, pt b7), (10, pt b29), (11, nt ((k : Nat) : Int)), (12, pt b41), (13, pt b132), (49, pt v), (50, nt ((k : Nat) : Int))] ?_
    refine Gk { callee := (Callee.value (Operand.func 32)), args := #[(Operand.tmp 49), (Operand.tmp 50)], argTypes := #[33, 3] } 32 #[pt v, nt ((k : Nat) : Int)] (some 51) (tally_spec Fk v ((svcK ts (tot xs) now r1 ⟨s, r1, []⟩ k).s) ((k : Nat) : Int) _ (jV).1) ?_
    rintro _ w137 ⟨rfl, hk138⟩
    have K139 := K133.tr (Keep.ofNone hk138)
    refine ⟨_, rfl, K139, ?_⟩
    have hzK139 := Keep.size K139
    have hsz140 := Keep.size hk138
    replace jr := jr.keep hk138 (fun f => f)
    replace jb1 := jb1.keep hk138 (fun f => f)
    replace jb3 := jb3.keep hk138 (fun f => f)
    replace jb5 := jb5.keep hk138 (fun f => f)
    replace jb7 := jb7.keep hk138 (fun f => f)
    replace jb29 := jb29.keep hk138 (fun f => f)
    replace jbs36 := jbs36.keep hk138 (fun f => f)
    replace jbn37 := jbn37.keep hk138 (fun f => f)
    replace hb41_46 := hb41_46.keep hk138 (fun f => f)
    replace hb132 := hb132.keep hk138 (fun f => f)
    replace jA := SlT.keep0 jA hk138
    replace jA2 := SlT.keep0 jA2 hk138
    replace jAk := SlT.keep0 jAk hk138
    replace jhl := Led.keep jhl hk138 (fun _ _ f => f)
    replace jhK0 := Keep.tr jhK0 (Keep.ofNone hk138)
    replace jR := Rfr.keep jR hk138 (fun _ _ f => f)
    replace jV := VotT.keep jV hk138 (fun _ _ f => f)
    replace hfenb := Keep.tr hfenb (Keep.ofNone hk138)
    replace hk50 := Keep.tr hk50 (Keep.ofNone hk138)
    refine Gc0 32 (.tmp 5) 0 (pt l) (some 52) qjb3 rfl ?_
    refine Gk { callee := (Callee.value (Operand.func 51)), args := #[(Operand.tmp 52)], argTypes := #[32] } 51 #[pt l] (some 53) (issued_spec G l xs cs _ jhl) ?_
    rintro _ w143 ⟨rfl, hk144⟩
    have K145 := K139.tr (Keep.ofNone hk144)
    refine ⟨_, rfl, K145, ?_⟩
    have hzK145 := Keep.size K145
    have hsz146 := Keep.size hk144
    replace jr := jr.keep hk144 (fun f => f)
    replace jb1 := jb1.keep hk144 (fun f => f)
    replace jb3 := jb3.keep hk144 (fun f => f)
    replace jb5 := jb5.keep hk144 (fun f => f)
    replace jb7 := jb7.keep hk144 (fun f => f)
    replace jb29 := jb29.keep hk144 (fun f => f)
    replace jbs36 := jbs36.keep hk144 (fun f => f)
    replace jbn37 := jbn37.keep hk144 (fun f => f)
    replace hb41_46 := hb41_46.keep hk144 (fun f => f)
    replace hb132 := hb132.keep hk144 (fun f => f)
    replace jA := SlT.keep0 jA hk144
    replace jA2 := SlT.keep0 jA2 hk144
    replace jAk := SlT.keep0 jAk hk144
    replace jhl := Led.keep jhl hk144 (fun _ _ f => f)
    replace jhK0 := Keep.tr jhK0 (Keep.ofNone hk144)
    replace jR := Rfr.keep jR hk144 (fun _ _ f => f)
    replace jV := VotT.keep jV hk144 (fun _ _ f => f)
    replace hfenb := Keep.tr hfenb (Keep.ofNone hk144)
    replace hk50 := Keep.tr hk50 (Keep.ofNone hk144)
    refine Gc0 34 (.tmp 4) 0 (pt r) (some 47) qjb1 rfl ?_
    refine Ga 57 (.tmp 12) 0 (Rfm.cells x) (some 48) 45 qhb41_46 (fun f => f) (take_all (Rfm.len _)) (Rfm.len _) ?_
    refine Gc0 3 (.tmp 7) 0 (nt now) (some 54) qjb7 rfl ?_
    refine Gk { callee := (Callee.value (Operand.func 50)), args := #[(Operand.tmp 47), (Operand.tmp 48), (Operand.tmp 51), (Operand.tmp 53), (Operand.tmp 54)], argTypes := #[34, 57, 55, 3, 3] } 50 #[pt r, .agg (Rfm.cells x).toArray, .agg (Tly.cells (tallyT ((svcK ts (tot xs) now r1 ⟨s, r1, []⟩ k).s) ((k : Nat) : Int))).toArray, nt (tot xs), nt now] (some 55) (decides_spec Hk r g ts (svcK ts (tot xs) now r1 ⟨s, r1, []⟩ k).rs x (tallyT ((svcK ts (tot xs) now r1 ⟨s, r1, []⟩ k).s) ((k : Nat) : Int)) (tot xs) now _ jR hxt) ?_
    rintro _ w147 ⟨rfl, hk148⟩
    have K149 := K145.tr (Keep.ofNone hk148)
    refine ⟨_, rfl, K149, ?_⟩
    have hzK149 := Keep.size K149
    have hsz150 := Keep.size hk148
    replace jr := jr.keep hk148 (fun f => f)
    replace jb1 := jb1.keep hk148 (fun f => f)
    replace jb3 := jb3.keep hk148 (fun f => f)
    replace jb5 := jb5.keep hk148 (fun f => f)
    replace jb7 := jb7.keep hk148 (fun f => f)
    replace jb29 := jb29.keep hk148 (fun f => f)
    replace jbs36 := jbs36.keep hk148 (fun f => f)
    replace jbn37 := jbn37.keep hk148 (fun f => f)
    replace hb41_46 := hb41_46.keep hk148 (fun f => f)
    replace hb132 := hb132.keep hk148 (fun f => f)
    replace jA := SlT.keep0 jA hk148
    replace jA2 := SlT.keep0 jA2 hk148
    replace jAk := SlT.keep0 jAk hk148
    replace jhl := Led.keep jhl hk148 (fun _ _ f => f)
    replace jhK0 := Keep.tr jhK0 (Keep.ofNone hk148)
    replace jR := Rfr.keep jR hk148 (fun _ _ f => f)
    replace jV := VotT.keep jV hk148 (fun _ _ f => f)
    replace hfenb := Keep.tr hfenb (Keep.ofNone hk148)
    replace hk50 := Keep.tr hk50 (Keep.ofNone hk148)
    refine Gs [13, 11, 14] [(4, pt b1), (6, pt b5), (7, pt b7), (10, pt b29), (11, nt ((k : Nat) : Int)), (13, pt b132), (46, .tuple #[.agg (Rfm.cells (decY ts x (tallyT ((svcK ts (tot xs) now r1 ⟨s, r1, []⟩ k).s) ((k : Nat) : Int)) (tot xs) now)).toArray, nt (decE ts x (tallyT ((svcK ts (tot xs) now r1 ⟨s, r1, []⟩ k).s) ((k : Nat) : Int)) (tot xs) now)]), (56, .agg (Rfm.cells (decY ts x (tallyT ((svcK ts (tot xs) now r1 ⟨s, r1, []⟩ k).s) ((k : Nat) : Int)) (tot xs) now)).toArray)] ?_
    refine GI_set (m := 45) (kd := true) 57 (.tmp 13) (.tmp 56) 0 (.agg (Rfm.cells (decY ts x (tallyT ((svcK ts (tot xs) now r1 ⟨s, r1, []⟩ k).s) ((k : Nat) : Int)) (tot xs) now)).toArray) (Rfm.cells (decY ts x (tallyT ((svcK ts (tot xs) now r1 ⟨s, r1, []⟩ k).s) ((k : Nat) : Int)) (tot xs) now)) none (by kernel_rfl) (by kernel_rfl) (by kernel_rfl) (by kernel_rfl) hb132 (by kernel_rfl) rfl (Rfm.len _) (Nat.le_of_ble_eq_true (by kernel_rfl)) (Rfm.one _) K149 (fun hh => absurd hh (by omega)) ?_
    intro w151 hb132_154 hk152 hz153 K155
    replace hb132_154 : Blk w151 b132 (Rfm.cells (decY ts x (tallyT ((svcK ts (tot xs) now r1 ⟨s, r1, []⟩ k).s) ((k : Nat) : Int)) (tot xs) now)) 57 := (Blk.eqL (Rfm.over _ _) hb132_154)
    have hsz156 := Keep.size hk152
    replace jr := jr.keep hk152 (by show ¬ (_ = _); omega)
    replace jb1 := jb1.keep hk152 (by show ¬ (_ = _); omega)
    replace jb3 := jb3.keep hk152 (by show ¬ (_ = _); omega)
    replace jb5 := jb5.keep hk152 (by show ¬ (_ = _); omega)
    replace jb7 := jb7.keep hk152 (by show ¬ (_ = _); omega)
    replace jb29 := jb29.keep hk152 (by show ¬ (_ = _); omega)
    replace jbs36 := jbs36.keep hk152 (by show ¬ (_ = _); omega)
    replace jbn37 := jbn37.keep hk152 (by show ¬ (_ = _); omega)
    replace hb41_46 := hb41_46.keep hk152 (by show ¬ (_ = _); omega)
    replace jA := SlT.keep jA hk152 (fun q hq hs => by have hs : q = b132 := hs; have g0 := hAr q hq; have g1 := ltjA q hq; omega)
    replace jA2 := SlT.keep jA2 hk152 (fun q hq hs => by have hs : q = b132 := hs; have g0 := owA2 q hq; have g1 := ltjA2 q hq; omega)
    replace jAk := SlT.keep jAk hk152 (fun q hq hs => by have hs : q = b132 := hs; have g0 := ownk q hq; have g1 := ltjAk q hq; omega)
    replace jhl := Led.keep jhl hk152 (fun q hq hs => by have hs : q = b132 := hs; have g0 := hlr q hq; have g1 := hGlt q hq; omega)
    replace jhK0 := Keep.fresh jhK0 hk152 (by intro i hi hs; first | exact hs | exact Or.inl hs | exact Or.inr hs | (exfalso; have hs2 : i = b132 := hs; omega))
    replace jR := Rfr.keep jR hk152 (fun q hq hs => by have hs : q = b132 := hs; have g0 := hHko q hq; have g1 := lt39 q hq; omega)
    replace jV := VotT.keep jV hk152 (fun q hq hs => by have hs : q = b132 := hs; have g0 := hFko q hq; have g1 := lt40 q hq; omega)
    replace hfenb := Keep.fresh hfenb hk152 (by intro i hi hs; have hs2 : i = b132 := hs; show _ ∨ _; omega)
    replace hk50 := Keep.fresh hk50 hk152 (by intro i hi hs; first | exact hs | exact Or.inl hs | exact Or.inr hs | (exfalso; have hs2 : i = b132 := hs; omega))
    refine Gs [] [(4, pt b1), (6, pt b5), (7, pt b7), (10, pt b29), (11, nt ((k : Nat) : Int)), (13, pt b132), (14, nt (decE ts x (tallyT ((svcK ts (tot xs) now r1 ⟨s, r1, []⟩ k).s) ((k : Nat) : Int)) (tot xs) now))] ?_
    refine GI_end ?_
    exact X_join [(4, pt b1), (6, pt b5), (7, pt b7), (10, pt b29), (11, nt ((k : Nat) : Int)), (13, pt b132), (14, nt (decE ts x (tallyT ((svcK ts (tot xs) now r1 ⟨s, r1, []⟩ k).s) ((k : Nat) : Int)) (tot xs) now))] rfl ⟨b132, hb132_154, by omega, hk50, rfl⟩
  ·
   rintro w157 _ ⟨b13, hb13, hb13g, hk158, rfl⟩
   have hsz159 := Keep.size hk158
   replace jr := jr.keep hk158 (fun f => f)
   replace jb1 := jb1.keep hk158 (fun f => f)
   replace jb3 := jb3.keep hk158 (fun f => f)
   replace jb5 := jb5.keep hk158 (fun f => f)
   replace jb7 := jb7.keep hk158 (fun f => f)
   replace jb29 := jb29.keep hk158 (fun f => f)
   replace jbs36 := jbs36.keep hk158 (fun f => f)
   replace jbn37 := jbn37.keep hk158 (fun f => f)
   replace hb41_46 := hb41_46.keep hk158 (fun f => f)
   replace jA := SlT.keep0 jA hk158
   replace jA2 := SlT.keep0 jA2 hk158
   replace jAk := SlT.keep0 jAk hk158
   replace jhl := Led.keep jhl hk158 (fun _ _ f => f)
   replace jhK0 := Keep.tr jhK0 (Keep.ofNone hk158)
   replace jR := Rfr.keep jR hk158 (fun _ _ f => f)
   replace jV := VotT.keep jV hk158 (fun _ _ f => f)
   replace hfenb := Keep.tr hfenb (Keep.ofNone hk158)
   have hb13lt := hb13.lt
   refine V_seq ?_
   refine V_draws (acts [6]) none_ [[0, 1, 2, 3, 4, 5, 6]] (by kernel_rfl) (by repeat first | exact (by first | exact sure_postM | exact sure_rQ2 | exact sure_no) | refine sure_then ?_ | refine sure_block ?_ | refine sure_join ?_) (by kernel_rfl) ?_
   intro w161 hk160 he162 L hL163
   have hsz164 := Keep.size hk160
   replace jr := jr.keep hk160 (fun f => f)
   replace jb1 := jb1.keep hk160 (fun f => f)
   replace jb3 := jb3.keep hk160 (fun f => f)
   replace jb5 := jb5.keep hk160 (fun f => f)
   replace jb7 := jb7.keep hk160 (fun f => f)
   replace jb29 := jb29.keep hk160 (fun f => f)
   replace jbs36 := jbs36.keep hk160 (fun f => f)
   replace jbn37 := jbn37.keep hk160 (fun f => f)
   replace hb41_46 := hb41_46.keep hk160 (fun f => f)
   replace hb13 := hb13.keep hk160 (fun f => f)
   replace jA := SlT.keep0 jA hk160
   replace jA2 := SlT.keep0 jA2 hk160
   replace jAk := SlT.keep0 jAk hk160
   replace jhl := Led.keep jhl hk160 (fun _ _ f => f)
   replace jhK0 := Keep.tr jhK0 (Keep.ofNone hk160)
   replace jR := Rfr.keep jR hk160 (fun _ _ f => f)
   replace jV := VotT.keep jV hk160 (fun _ _ f => f)
   replace hfenb := Keep.tr hfenb (Keep.ofNone hk160)
   have qjr := jr
   have qjb1 := jb1
   have qjb3 := jb3
   have qjb5 := jb5
   have qjb7 := jb7
   have qjb29 := jb29
   have qjbs36 := jbs36
   have qjbn37 := jbn37
   have qhb41_46 := hb41_46
   have qhb13 := hb13
   have K165 : Keep none_ w161 w161 := Keep.refl _ _
   obtain rfl := List.mem_singleton.1 hL163
   refine Gc0 34 (.tmp 4) 0 (pt r) (some 58) qjb1 rfl ?_
   refine Gs [3, 4, 5, 6] [(4, pt b1), (6, pt b5), (7, pt b7), (10, pt b29), (11, nt ((k : Nat) : Int)), (13, pt b13), (14, nt (decE ts x (tallyT ((svcK ts (tot xs) now r1 ⟨s, r1, []⟩ k).s) ((k : Nat) : Int)) (tot xs) now)), (60, .pointer (some ⟨r, 1, none⟩))] ?_
   refine Gc0 95 (.tmp 60) 1 (pt g) (some 61) qjr rfl ?_
   refine Gs [5, 6] [(4, pt b1), (6, pt b5), (7, pt b7), (10, pt b29), (11, nt ((k : Nat) : Int)), (13, pt b13), (14, nt (decE ts x (tallyT ((svcK ts (tot xs) now r1 ⟨s, r1, []⟩ k).s) ((k : Nat) : Int)) (tot xs) now)), (61, pt g), (62, nt ((k : Nat) : Int))] ?_
   refine Ga 57 (.tmp 13) 0 (Rfm.cells (decY ts x (tallyT ((svcK ts (tot xs) now r1 ⟨s, r1, []⟩ k).s) ((k : Nat) : Int)) (tot xs) now)) (some 63) 45 qhb13 (fun f => f) (take_all (Rfm.len _)) (Rfm.len _) ?_
   refine GI_final 6 (by kernel_rfl) (by kernel_rfl) ?_
   refine Ok { callee := (Callee.value (Operand.func 45)), args := #[(Operand.tmp 61), (Operand.const (Value.int IntKind.i64 0)), (Operand.tmp 62), (Operand.tmp 63)], argTypes := #[95, 3, 3, 57] } 45 #[pt g, nt 0, nt ((k : Nat) : Int), .agg (Rfm.cells (decY ts x (tallyT ((svcK ts (tot xs) now r1 ⟨s, r1, []⟩ k).s) ((k : Nat) : Int)) (tot xs) now)).toArray] (some 64) (rset_spec Hk r g ts (svcK ts (tot xs) now r1 ⟨s, r1, []⟩ k).rs ((k : Nat) : Int) (decY ts x (tallyT ((svcK ts (tot xs) now r1 ⟨s, r1, []⟩ k).s) ((k : Nat) : Int)) (tot xs) now) _ jR (by omega) (by rw [decY_trk]; exact hxt)) ?_
   rintro _ w170 ⟨rfl, ⟨H172, hR173, hfr174⟩, hk171⟩
   refine ⟨_, rfl, ?_⟩
   have hsz175 := Keep.size hk171
   replace jr := jr.keep hk171 (fun hs => by have h1 := hgo _ hs; have h2 := hgl _ hs; omega)
   replace jb1 := jb1.keep hk171 (fun hs => by have h1 := hgo _ hs; have h2 := hgl _ hs; omega)
   replace jb3 := jb3.keep hk171 (fun hs => by have h1 := hgo _ hs; have h2 := hgl _ hs; omega)
   replace jb5 := jb5.keep hk171 (fun hs => by have h1 := hgo _ hs; have h2 := hgl _ hs; omega)
   replace jb7 := jb7.keep hk171 (fun hs => by have h1 := hgo _ hs; have h2 := hgl _ hs; omega)
   replace jb29 := jb29.keep hk171 (fun hs => by have h1 := hgo _ hs; have h2 := hgl _ hs; omega)
   replace jbs36 := jbs36.keep hk171 (fun hs => by have h1 := hgo _ hs; have h2 := hgl _ hs; omega)
   replace jbn37 := jbn37.keep hk171 (fun hs => by have h1 := hgo _ hs; have h2 := hgl _ hs; omega)
   replace hb41_46 := hb41_46.keep hk171 (fun hs => by have h1 := hgo _ hs; have h2 := hgl _ hs; omega)
   replace hb13 := hb13.keep hk171 (fun hs => by have h1 := hgo _ hs; have h2 := hgl _ hs; omega)
   replace jA := SlT.keep jA hk171 (fun q hq hs => (fun q h1 h2 => (hAo q h2).2.2 h1) q hs hq)
   replace jA2 := SlT.keep jA2 hk171 (fun q hq hs => by have g0 := owA2 q hq; have g1 := ltjA2 q hq; have h1 := hgo q hs; have h2 := hgl q hs; omega)
   replace jAk := SlT.keep jAk hk171 (fun q hq hs => (fun q h1 h2 => (fun q h1 h2 => dAkH q h2 h1) q (by rw [show q = g from h1]; exact (Rfr.atg jR)) h2) q hs hq)
   replace jhl := Led.keep jhl hk171 (fun q hq hs => (fun q h1 h2 => dHG q (by rw [show q = g from h1]; exact (Rfr.atg jR)) h2) q hs hq)
   replace jhK0 := Keep.fresh jhK0 hk171 (by intro i hi hs; first | exact hs | (exfalso; have h1 := hgo i hs; have h2 := hgl i hs; omega) | (have h1 := hgo i hs; have h2 := hgl i hs; show _ ∨ _; omega))
   replace jV := VotT.keep jV hk171 (fun q hq hs => (fun q h1 h2 => dHF q (by rw [show q = g from h1]; exact (Rfr.atg jR)) h2) q hs hq)
   replace hfenb := Keep.fresh hfenb hk171 (by intro i hi hs; have h1 := hgo i hs; have h2 := hgl i hs; show _ ∨ _; omega)
   have own177 : ∀ q, H172 q → (q < w33.heap.size ∨ M1 ≤ q) ∧ q ≠ b1 ∧ q ≠ b3 ∧ q ≠ b5 ∧ q ≠ b7 ∧ q ≠ b29 ∧ q ≠ bs36 ∧ q ≠ bn37 ∧ q ≠ b41 ∧ q ≠ b13 := fun q hq => by rcases hfr174 q hq with h | h; (have h1 := hHko q h; have h2 := lt39 q h; omega); omega
   have lt176 := Rfr.lt hR173
   have rel178 : ∀ q, H172 q → H q ∨ w.heap.size ≤ q := fun q hq => by rcases hfr174 q hq with h | h; exact hHkr q h; exact .inr (by omega)
   have dis179 : ∀ q, H172 q → ¬ inA Ak q := fun q h1 h2 => by rcases hfr174 q h1 with h | h; exact (fun q h1 h2 => dAkH q h2 h1) q h h2; (have h4 := ltjAk q h2; omega)
   have dis180 : ∀ q, H172 q → ¬ G q := fun q h1 h2 => by rcases hfr174 q h1 with h | h; exact dHG q h h2; (have h4 := hGlt q h2; omega)
   have dis181 : ∀ q, H172 q → ¬ Fk q := fun q h1 h2 => by rcases hfr174 q h1 with h | h; exact dHF q h h2; (have h4 := lt40 q h2; omega)
   refine Oer ?_
   refine Os 2 [(4, pt b1), (6, pt b5), (7, pt b7), (10, pt b29), (11, nt ((k : Nat) : Int)), (14, nt (decE ts x (tallyT ((svcK ts (tot xs) now r1 ⟨s, r1, []⟩ k).s) ((k : Nat) : Int)) (tot xs) now)), (66, .bool (!(decide (decE ts x (tallyT ((svcK ts (tot xs) now r1 ⟨s, r1, []⟩ k).s) ((k : Nat) : Int)) (tot xs) now = 0))))] ?_
   refine Oe ?_
   refine V_not (decE ts x (tallyT ((svcK ts (tot xs) now r1 ⟨s, r1, []⟩ k).s) ((k : Nat) : Int)) (tot xs) now = 0) (by kernel_rfl) (fun hc182 => ?_) (fun hc182 => ?_)
   ·
    refine V_draws (acts [0, 6, 7, 8, 9]) (fun q => q = g ∨ Fk q) [[0, 1, 2, 3, 4, 5, 6, 7, 8, 9], [1, 2, 3, 4, 5, 6, 0, 7, 8, 9], [1, 2, 3, 4, 5, 6, 7, 0, 8, 9]] (by kernel_rfl) (by repeat first | exact (by first | exact sure_postM | exact sure_rQ2 | exact sure_no) | refine sure_then ?_ | refine sure_block ?_ | refine sure_join ?_) (by kernel_rfl) ?_
    intro w184 hk183 he185 L hL186
    have hsz187 := Keep.size hk183
    replace jr := jr.keep hk183 (fun f => f)
    replace jb1 := jb1.keep hk183 (fun f => f)
    replace jb3 := jb3.keep hk183 (fun f => f)
    replace jb5 := jb5.keep hk183 (fun f => f)
    replace jb7 := jb7.keep hk183 (fun f => f)
    replace jb29 := jb29.keep hk183 (fun f => f)
    replace jbs36 := jbs36.keep hk183 (fun f => f)
    replace jbn37 := jbn37.keep hk183 (fun f => f)
    replace hb41_46 := hb41_46.keep hk183 (fun f => f)
    replace hb13 := hb13.keep hk183 (fun f => f)
    replace jA := SlT.keep0 jA hk183
    replace jA2 := SlT.keep0 jA2 hk183
    replace jAk := SlT.keep0 jAk hk183
    replace jhl := Led.keep jhl hk183 (fun _ _ f => f)
    replace jhK0 := Keep.tr jhK0 (Keep.ofNone hk183)
    replace jV := VotT.keep jV hk183 (fun _ _ f => f)
    replace hfenb := Keep.tr hfenb (Keep.ofNone hk183)
    replace hR173 := Rfr.keep hR173 hk183 (fun _ _ f => f)
    have qjr := jr
    have qjb1 := jb1
    have qjb3 := jb3
    have qjb5 := jb5
    have qjb7 := jb7
    have qjb29 := jb29
    have qjbs36 := jbs36
    have qjbn37 := jbn37
    have qhb41_46 := hb41_46
    have qhb13 := hb13
    have K188 : Keep (fun q => q = g ∨ Fk q) w184 w184 := Keep.refl _ _
    simp only [List.mem_cons, List.not_mem_nil, or_false] at hL186
    rcases hL186 with rfl | rfl | rfl
    ·
     refine GI_cellA 50 (.tmp 10) 0 (.slice Ak ((svcK ts (tot xs) now r1 ⟨s, r1, []⟩ k).out.length) capk) (some 67) (by kernel_rfl) (by kernel_rfl) K188 (by kernel_rfl) jb29 (m := 1) (by kernel_rfl) rfl ?_
     refine Gc 34 (.tmp 4) 0 (pt r) (some 68) qjb1 (fun hs => by rcases hs with hs | hs; omega; (have h1 := hFko _ hs; omega)) rfl ?_
     refine Gc 33 (.tmp 6) 0 (pt v) (some 69) qjb5 (fun hs => by rcases hs with hs | hs; omega; (have h1 := hFko _ hs; omega)) rfl ?_
     refine Gs [5, 6, 7, 8, 9] [(7, pt b7), (10, pt b29), (67, .slice Ak ((svcK ts (tot xs) now r1 ⟨s, r1, []⟩ k).out.length) capk), (68, pt r), (69, pt v), (70, nt ((k : Nat) : Int)), (71, nt (decE ts x (tallyT ((svcK ts (tot xs) now r1 ⟨s, r1, []⟩ k).s) ((k : Nat) : Int)) (tot xs) now))] ?_
     refine Gc 3 (.tmp 7) 0 (nt now) (some 72) qjb7 (fun hs => by rcases hs with hs | hs; omega; (have h1 := hFko _ hs; omega)) rfl ?_
     refine GI_final 6 (by kernel_rfl) (by kernel_rfl) ?_
     refine Ok { callee := (Callee.value (Operand.func 52)), args := #[(Operand.tmp 68), (Operand.tmp 69), (Operand.tmp 70), (Operand.tmp 71), (Operand.tmp 72)], argTypes := #[34, 33, 3, 3, 3] } 52 #[pt r, pt v, nt ((k : Nat) : Int), nt (decE ts x (tallyT ((svcK ts (tot xs) now r1 ⟨s, r1, []⟩ k).s) ((k : Nat) : Int)) (tot xs) now), nt now] (some 73) (ends_spec H172 r g ts ((svcK ts (tot xs) now r1 ⟨s, r1, []⟩ k).rs.set ((k : Nat) : Int).toNat (decY ts x (tallyT ((svcK ts (tot xs) now r1 ⟨s, r1, []⟩ k).s) ((k : Nat) : Int)) (tot xs) now)) Fk v ((svcK ts (tot xs) now r1 ⟨s, r1, []⟩ k).s) ((k : Nat) : Int) (decE ts x (tallyT ((svcK ts (tot xs) now r1 ⟨s, r1, []⟩ k).s) ((k : Nat) : Int)) (tot xs) now) now _ hR173 jV dis181 (getA_len (by rw [List.length_set]; omega))) ?_
     rintro _ w191 ⟨rfl, ⟨F193, F196, ho194, ho197, hfr195, hfr198, hdis199⟩, hk192⟩
     refine ⟨_, rfl, ?_⟩
     have hsz200 := Keep.size hk192
     replace jr := jr.keep hk192 (fun hs => by rcases hs with hs | hs; (have u0 := hgo _ hs; have u1 := hgl _ hs; omega); (have u0 := hFko _ hs; have u1 := lt40 _ hs; omega))
     replace jb1 := jb1.keep hk192 (fun hs => by rcases hs with hs | hs; (have u0 := hgo _ hs; have u1 := hgl _ hs; omega); (have u0 := hFko _ hs; have u1 := lt40 _ hs; omega))
     replace jb3 := jb3.keep hk192 (fun hs => by rcases hs with hs | hs; (have u0 := hgo _ hs; have u1 := hgl _ hs; omega); (have u0 := hFko _ hs; have u1 := lt40 _ hs; omega))
     replace jb5 := jb5.keep hk192 (fun hs => by rcases hs with hs | hs; (have u0 := hgo _ hs; have u1 := hgl _ hs; omega); (have u0 := hFko _ hs; have u1 := lt40 _ hs; omega))
     replace jb7 := jb7.keep hk192 (fun hs => by rcases hs with hs | hs; (have u0 := hgo _ hs; have u1 := hgl _ hs; omega); (have u0 := hFko _ hs; have u1 := lt40 _ hs; omega))
     replace jb29 := jb29.keep hk192 (fun hs => by rcases hs with hs | hs; (have u0 := hgo _ hs; have u1 := hgl _ hs; omega); (have u0 := hFko _ hs; have u1 := lt40 _ hs; omega))
     replace jbs36 := jbs36.keep hk192 (fun hs => by rcases hs with hs | hs; (have u0 := hgo _ hs; have u1 := hgl _ hs; omega); (have u0 := hFko _ hs; have u1 := lt40 _ hs; omega))
     replace jbn37 := jbn37.keep hk192 (fun hs => by rcases hs with hs | hs; (have u0 := hgo _ hs; have u1 := hgl _ hs; omega); (have u0 := hFko _ hs; have u1 := lt40 _ hs; omega))
     replace hb41_46 := hb41_46.keep hk192 (fun hs => by rcases hs with hs | hs; (have u0 := hgo _ hs; have u1 := hgl _ hs; omega); (have u0 := hFko _ hs; have u1 := lt40 _ hs; omega))
     replace hb13 := hb13.keep hk192 (fun hs => by rcases hs with hs | hs; (have u0 := hgo _ hs; have u1 := hgl _ hs; omega); (have u0 := hFko _ hs; have u1 := lt40 _ hs; omega))
     replace jA := SlT.keep jA hk192 (fun q hq hs => by rcases hs with hs | hs; exact (hAo q hq).2.2 hs; exact (fun q h1 h2 => dFA q h2 h1) q hq hs)
     replace jA2 := SlT.keep jA2 hk192 (fun q hq hs => by rcases hs with hs | hs; (have g0 := owA2 q hq; have g1 := ltjA2 q hq; have u9 : q = g := hs; omega); exact (fun q h1 h2 => dFA2 q h2 h1) q hq hs)
     replace jAk := SlT.keep jAk hk192 (fun q hq hs => by rcases hs with hs | hs; exact (fun q h1 h2 => dis179 q h2 h1) q hq (by rw [show q = g from hs]; exact (Rfr.atg hR173)); exact dAkF q hq hs)
     replace jhl := Led.keep jhl hk192 (fun q hq hs => by rcases hs with hs | hs; exact (fun q h1 h2 => dis180 q h2 h1) q hq (by rw [show q = g from hs]; exact (Rfr.atg hR173)); exact (fun q h1 h2 => dFG q h2 h1) q hq hs)
     replace jhK0 := Keep.fresh jhK0 hk192 (fun i hi hs => by rcases hs with hs | hs; (exact .inl hs); (rcases hFkr i hs with h | h; exact .inr <| h; (exfalso; omega)))
     replace hfenb := Keep.fresh hfenb hk192 (by intro i hi hs; rcases hs with hs | hs; (have u0 := hgo i hs; have u1 := hgl i hs; show _ ∨ _; omega); (have u0 := hFko i hs; have u1 := lt40 i hs; show _ ∨ _; omega))
     have own202 : ∀ q, F193 q → (q < w33.heap.size ∨ M1 ≤ q) ∧ q ≠ b1 ∧ q ≠ b3 ∧ q ≠ b5 ∧ q ≠ b7 ∧ q ≠ b29 ∧ q ≠ bs36 ∧ q ≠ bn37 ∧ q ≠ b41 ∧ q ≠ b13 := fun q hq => by rcases hfr195 q hq with h | h; (have h1 := own177 q h; have h2 := lt176 q h; omega); omega
     have lt201 := Rfr.lt ho194
     have rel203 : ∀ q, F193 q → H q ∨ w.heap.size ≤ q := fun q hq => by rcases hfr195 q hq with h | h; exact rel178 q h; exact .inr (by omega)
     have dis204 : ∀ q, F193 q → ¬ inA Ak q := fun q h1 h2 => by rcases hfr195 q h1 with h | h; exact dis179 q h h2; (have h4 := ltjAk q h2; omega)
     have dis205 : ∀ q, F193 q → ¬ G q := fun q h1 h2 => by rcases hfr195 q h1 with h | h; exact dis180 q h h2; (have h4 := hGlt q h2; omega)
     have own207 : ∀ q, F196 q → (q < w33.heap.size ∨ M1 ≤ q) ∧ q ≠ r ∧ q ≠ b1 ∧ q ≠ b3 ∧ q ≠ b5 ∧ q ≠ b7 ∧ q ≠ b29 ∧ q ≠ bs36 ∧ q ≠ bn37 ∧ q ≠ b41 ∧ q ≠ b13 := fun q hq => by rcases hfr198 q hq with h | h; (have h1 := hFko q h; have h2 := lt40 q h; omega); omega
     have lt206 := VotT.lt ho197
     have rel208 : ∀ q, F196 q → F q ∨ w.heap.size ≤ q := fun q hq => by rcases hfr198 q hq with h | h; exact hFkr q h; exact .inr (by omega)
     have dis209 : ∀ q, F196 q → ¬ inA A q := fun q h1 h2 => by rcases hfr198 q h1 with h | h; exact dFA q h h2; (have h4 := ltjA q h2; omega)
     have dis210 : ∀ q, F196 q → ¬ inA A2 q := fun q h1 h2 => by rcases hfr198 q h1 with h | h; exact dFA2 q h h2; (have h4 := ltjA2 q h2; omega)
     have dis211 : ∀ q, F196 q → ¬ inA Ak q := fun q h1 h2 => by rcases hfr198 q h1 with h | h; exact (fun q h1 h2 => dAkF q h2 h1) q h h2; (have h4 := ltjAk q h2; omega)
     have dis212 : ∀ q, F196 q → ¬ G q := fun q h1 h2 => by rcases hfr198 q h1 with h | h; exact dFG q h h2; (have h4 := hGlt q h2; omega)
     refine OI_slit (E := 53) (zv := .agg #[nt 0, nt 0, nt 0]) (sz := 3) (by_ := 24) 50 1 #[(0, (Operand.tmp 73))] [.agg (Evt.cells (Evt.mk 1 ((k : Nat) : Int) (decE ts x (tallyT ((svcK ts (tot xs) now r1 ⟨s, r1, []⟩ k).s) ((k : Nat) : Int)) (tot xs) now))).toArray] (Evt.cells (Evt.mk 1 ((k : Nat) : Int) (decE ts x (tallyT ((svcK ts (tot xs) now r1 ⟨s, r1, []⟩ k).s) ((k : Nat) : Int)) (tot xs) now))) (some 74) (by kernel_rfl) (by kernel_rfl) (by kernel_rfl) (by omega) rfl (by omega) (by intro v hv; obtain rfl := List.mem_singleton.1 hv; show (Evt.cells (Evt.mk 1 ((k : Nat) : Int) (decE ts x (tallyT ((svcK ts (tot xs) now r1 ⟨s, r1, []⟩ k).s) ((k : Nat) : Int)) (tot xs) now))).toArray.size = 3; simp [Evt.len]) (by kernel_rfl) (by show (Evt.cells (Evt.mk 1 ((k : Nat) : Int) (decE ts x (tallyT ((svcK ts (tot xs) now r1 ⟨s, r1, []⟩ k).s) ((k : Nat) : Int)) (tot xs) now))).toArray.toList ++ [] = _; simp) ?_
     intro b213 w213 e213 hb213 k213 z213
     have hsz214 := Keep.size k213
     replace jr := jr.keep k213 (fun f => f)
     replace jb1 := jb1.keep k213 (fun f => f)
     replace jb3 := jb3.keep k213 (fun f => f)
     replace jb5 := jb5.keep k213 (fun f => f)
     replace jb7 := jb7.keep k213 (fun f => f)
     replace jb29 := jb29.keep k213 (fun f => f)
     replace jbs36 := jbs36.keep k213 (fun f => f)
     replace jbn37 := jbn37.keep k213 (fun f => f)
     replace hb41_46 := hb41_46.keep k213 (fun f => f)
     replace hb13 := hb13.keep k213 (fun f => f)
     replace jA := SlT.keep0 jA k213
     replace jA2 := SlT.keep0 jA2 k213
     replace jAk := SlT.keep0 jAk k213
     replace jhl := Led.keep jhl k213 (fun _ _ f => f)
     replace jhK0 := Keep.tr jhK0 (Keep.ofNone k213)
     replace hfenb := Keep.tr hfenb (Keep.ofNone k213)
     replace ho194 := Rfr.keep ho194 k213 (fun _ _ f => f)
     replace ho197 := VotT.keep ho197 k213 (fun _ _ f => f)
     have hb213lt := hb213.lt
     refine OI_append (t := 50) (at2 := 50) (E := 53) (E2 := 53) (sz := 3) (by_ := 24) (zv := .agg #[nt 0, nt 0, nt 0]) (m := ((svcK ts (tot xs) now r1 ⟨s, r1, []⟩ k).out).length) (k := 1) (.tmp 67) (.tmp 74) (.slice Ak ((svcK ts (tot xs) now r1 ⟨s, r1, []⟩ k).out.length) capk) (.slice (some ⟨b213, 0, none⟩) 1 1) (some 75) (by kernel_rfl) (by kernel_rfl) (by kernel_rfl) (by kernel_rfl) (by kernel_rfl) (by kernel_rfl) (by kernel_rfl) (SlT.slr jAk) (slr_one hb213 (Evt.len ((Evt.mk 1 ((k : Nat) : Int) (decE ts x (tallyT ((svcK ts (tot xs) now r1 ⟨s, r1, []⟩ k).s) ((k : Nat) : Int)) (tot xs) now))))) (Evt.one ((Evt.mk 1 ((k : Nat) : Int) (decE ts x (tallyT ((svcK ts (tot xs) now r1 ⟨s, r1, []⟩ k).s) ((k : Nat) : Int)) (tot xs) now)))) (by first | omega | (simp only [List.length_nil]; omega)) (by omega) (by first | omega | (simp only [List.length_nil]; omega)) (by omega) ?_
     intro vv9 w215 hap
     obtain ⟨A215, cap215, rfl, hA215, hk215, own215x⟩ := app_one (f := Evt.cells) (xs := ((svcK ts (tot xs) now r1 ⟨s, r1, []⟩ k).out)) (x := ((Evt.mk 1 ((k : Nat) : Int) (decE ts x (tallyT ((svcK ts (tot xs) now r1 ⟨s, r1, []⟩ k).s) ((k : Nat) : Int)) (tot xs) now)))) (A := Ak) (cap := capk) hap (fun x _ => Evt.len x) (Evt.len _)
     have own215 : ∀ q, inA A215 q → M1 ≤ q := fun q hq => by rcases own215x q hq with h | h; exact ownk q h; (show M1 ≤ q; omega)
     have hsz216 := Keep.size hk215
     replace jr := jr.keep hk215 (fun hs => by have h1 := ownk _ hs; have h2 := ltjAk _ hs; omega)
     replace jb1 := jb1.keep hk215 (fun hs => by have h1 := ownk _ hs; have h2 := ltjAk _ hs; omega)
     replace jb3 := jb3.keep hk215 (fun hs => by have h1 := ownk _ hs; have h2 := ltjAk _ hs; omega)
     replace jb5 := jb5.keep hk215 (fun hs => by have h1 := ownk _ hs; have h2 := ltjAk _ hs; omega)
     replace jb7 := jb7.keep hk215 (fun hs => by have h1 := ownk _ hs; have h2 := ltjAk _ hs; omega)
     replace jb29 := jb29.keep hk215 (fun hs => by have h1 := ownk _ hs; have h2 := ltjAk _ hs; omega)
     replace jbs36 := jbs36.keep hk215 (fun hs => by have h1 := ownk _ hs; have h2 := ltjAk _ hs; omega)
     replace jbn37 := jbn37.keep hk215 (fun hs => by have h1 := ownk _ hs; have h2 := ltjAk _ hs; omega)
     replace hb41_46 := hb41_46.keep hk215 (fun hs => by have h1 := ownk _ hs; have h2 := ltjAk _ hs; omega)
     replace hb13 := hb13.keep hk215 (fun hs => by have h1 := ownk _ hs; have h2 := ltjAk _ hs; omega)
     replace jA := SlT.keep jA hk215 (fun q hq hs => by have g0 := hAr q hq; have g1 := ltjA q hq; have h1 := ownk q hs; have h2 := ltjAk q hs; omega)
     replace jA2 := SlT.keep jA2 hk215 (fun q hq hs => by have g0 := owA2 q hq; have g1 := ltjA2 q hq; have h1 := ownk q hs; have h2 := ltjAk q hs; omega)
     replace jhl := Led.keep jhl hk215 (fun q hq hs => (fun (q : Nat) (h1 : inA Ak q) (h2 : G q) => by have h3 := ownk q h1; have h4 := hGlt q h2; omega) q hs hq)
     replace jhK0 := Keep.fresh jhK0 hk215 (by intro i hi hs; first | exact hs | (exfalso; have h1 := ownk i hs; have h2 := ltjAk i hs; omega) | (have h1 := ownk i hs; have h2 := ltjAk i hs; show _ ∨ _; omega))
     replace hfenb := Keep.fresh hfenb hk215 (by intro i hi hs; have h1 := ownk i hs; have h2 := ltjAk i hs; show _ ∨ _; omega)
     replace ho194 := Rfr.keep ho194 hk215 (fun q hq hs => (fun q h1 h2 => dis204 q h2 h1) q hs hq)
     replace ho197 := VotT.keep ho197 hk215 (fun q hq hs => (fun q h1 h2 => dis211 q h2 h1) q hs hq)
     have lt215 := SlT.lt hA215
     have dis217 : ∀ q, inA A215 q → ¬ G q := fun q h1 h2 => by rcases own215x q h1 with h | h; exact (fun (q : Nat) (h1 : G q) (h2 : inA Ak q) => by have h3 := ownk q h2; have h4 := hGlt q h1; omega) q h2 h; (have h4 := hGlt q h2; omega)
     have dis218 : ∀ q, inA A215 q → ¬ F193 q := fun q h1 h2 => by rcases own215x q h1 with h | h; exact dis204 q h2 h; (have h4 := lt201 q h2; omega)
     have dis219 : ∀ q, inA A215 q → ¬ F196 q := fun q h1 h2 => by rcases own215x q h1 with h | h; exact dis211 q h2 h; (have h4 := lt206 q h2; omega)
     refine OI_set (m := 1) (kd := false) 50 (.tmp 10) (.tmp 75) 0 (.slice A215 (((svcK ts (tot xs) now r1 ⟨s, r1, []⟩ k).out ++ [((Evt.mk 1 ((k : Nat) : Int) (decE ts x (tallyT ((svcK ts (tot xs) now r1 ⟨s, r1, []⟩ k).s) ((k : Nat) : Int)) (tot xs) now)))]).length) cap215) [.slice A215 (((svcK ts (tot xs) now r1 ⟨s, r1, []⟩ k).out ++ [((Evt.mk 1 ((k : Nat) : Int) (decE ts x (tallyT ((svcK ts (tot xs) now r1 ⟨s, r1, []⟩ k).s) ((k : Nat) : Int)) (tot xs) now)))]).length) cap215] none (by kernel_rfl) (by kernel_rfl) (by kernel_rfl) jb29 (by kernel_rfl) (by kernel_rfl) (by kernel_rfl) (Nat.le_of_ble_eq_true (by kernel_rfl)) (by simp [Value.oneCell']) ?_
     intro w220 hb29_223 hk221 hz222
     replace hb29_223 : Blk w220 b29 [.slice A215 (((svcK ts (tot xs) now r1 ⟨s, r1, []⟩ k).out ++ [((Evt.mk 1 ((k : Nat) : Int) (decE ts x (tallyT ((svcK ts (tot xs) now r1 ⟨s, r1, []⟩ k).s) ((k : Nat) : Int)) (tot xs) now)))]).length) cap215] 50 := hb29_223
     have hsz224 := Keep.size hk221
     replace jr := jr.keep hk221 (by show ¬ (_ = _); omega)
     replace jb1 := jb1.keep hk221 (by show ¬ (_ = _); omega)
     replace jb3 := jb3.keep hk221 (by show ¬ (_ = _); omega)
     replace jb5 := jb5.keep hk221 (by show ¬ (_ = _); omega)
     replace jb7 := jb7.keep hk221 (by show ¬ (_ = _); omega)
     replace jbs36 := jbs36.keep hk221 (by show ¬ (_ = _); omega)
     replace jbn37 := jbn37.keep hk221 (by show ¬ (_ = _); omega)
     replace hb41_46 := hb41_46.keep hk221 (by show ¬ (_ = _); omega)
     replace hb13 := hb13.keep hk221 (by show ¬ (_ = _); omega)
     replace jA := SlT.keep jA hk221 (fun q hq hs => by have hs : q = b29 := hs; have g0 := hAr q hq; have g1 := ltjA q hq; omega)
     replace jA2 := SlT.keep jA2 hk221 (fun q hq hs => by have hs : q = b29 := hs; have g0 := owA2 q hq; have g1 := ltjA2 q hq; omega)
     replace hA215 := SlT.keep hA215 hk221 (fun q hq hs => by have hs : q = b29 := hs; have g0 := own215 q hq; have g1 := lt215 q hq; omega)
     replace jhl := Led.keep jhl hk221 (fun q hq hs => by have hs : q = b29 := hs; have g0 := hlr q hq; have g1 := hGlt q hq; omega)
     replace jhK0 := Keep.fresh jhK0 hk221 (by intro i hi hs; first | exact hs | exact Or.inl hs | exact Or.inr hs | (exfalso; have hs2 : i = b29 := hs; omega))
     replace hfenb := Keep.fresh hfenb hk221 (by intro i hi hs; have hs2 : i = b29 := hs; show _ ∨ _; omega)
     replace ho194 := Rfr.keep ho194 hk221 (fun q hq hs => by have hs : q = b29 := hs; have g0 := own202 q hq; have g1 := lt201 q hq; omega)
     replace ho197 := VotT.keep ho197 hk221 (fun q hq hs => by have hs : q = b29 := hs; have g0 := own207 q hq; have g1 := lt206 q hq; omega)
     refine OI_end rfl ?_
     refine X_block ?_
     have hq9 := hstp.trans (step_end hc49 hc182)
     rw [endR_set (by omega)] at ho194
     exact fun a _ => ⟨hfenb, A215, cap215, F193, F196, jr, jb1, jb3, jb5, jb7, jbs36, jbn37, jA, jA2, jhl, jhK0, by rw [hq9]; exact hb29_223, by rw [hq9]; exact hA215, by rw [hq9]; exact ho194, by rw [hq9]; exact ho197, own215, (fun q hq => by have h1 := own202 q hq; have h2 := lt201 q hq; omega), rel203, (fun q hq => by have h1 := own207 q hq; have h2 := lt206 q hq; omega), rel208, hdis199, dis205, dis212, dis210, dis209, dis218, dis219⟩
    ·
     refine Gc 34 (.tmp 4) 0 (pt r) (some 68) qjb1 (fun hs => by rcases hs with hs | hs; omega; (have h1 := hFko _ hs; omega)) rfl ?_
     refine Gc 33 (.tmp 6) 0 (pt v) (some 69) qjb5 (fun hs => by rcases hs with hs | hs; omega; (have h1 := hFko _ hs; omega)) rfl ?_
     refine Gs [5, 6, 0, 7, 8, 9] [(7, pt b7), (10, pt b29), (68, pt r), (69, pt v), (70, nt ((k : Nat) : Int)), (71, nt (decE ts x (tallyT ((svcK ts (tot xs) now r1 ⟨s, r1, []⟩ k).s) ((k : Nat) : Int)) (tot xs) now))] ?_
     refine Gc 3 (.tmp 7) 0 (nt now) (some 72) qjb7 (fun hs => by rcases hs with hs | hs; omega; (have h1 := hFko _ hs; omega)) rfl ?_
     refine Gk { callee := (Callee.value (Operand.func 52)), args := #[(Operand.tmp 68), (Operand.tmp 69), (Operand.tmp 70), (Operand.tmp 71), (Operand.tmp 72)], argTypes := #[34, 33, 3, 3, 3] } 52 #[pt r, pt v, nt ((k : Nat) : Int), nt (decE ts x (tallyT ((svcK ts (tot xs) now r1 ⟨s, r1, []⟩ k).s) ((k : Nat) : Int)) (tot xs) now), nt now] (some 73) (ends_spec H172 r g ts ((svcK ts (tot xs) now r1 ⟨s, r1, []⟩ k).rs.set ((k : Nat) : Int).toNat (decY ts x (tallyT ((svcK ts (tot xs) now r1 ⟨s, r1, []⟩ k).s) ((k : Nat) : Int)) (tot xs) now)) Fk v ((svcK ts (tot xs) now r1 ⟨s, r1, []⟩ k).s) ((k : Nat) : Int) (decE ts x (tallyT ((svcK ts (tot xs) now r1 ⟨s, r1, []⟩ k).s) ((k : Nat) : Int)) (tot xs) now) now _ hR173 jV dis181 (getA_len (by rw [List.length_set]; omega))) ?_
     rintro _ w227 ⟨rfl, ⟨F229, F232, ho230, ho233, hfr231, hfr234, hdis235⟩, hk228⟩
     have K236 := Keep.fresh K188 hk228 (by intro i hi hs; first | exact hs | (rcases hs with hs | hs; (have u0 := hgo i hs; have u1 := hgl i hs; omega); (have u0 := hFko i hs; have u1 := lt40 i hs; omega)))
     refine ⟨_, rfl, K236, ?_⟩
     have hzK236 := Keep.size K236
     have hsz237 := Keep.size hk228
     replace jr := jr.keep hk228 (fun hs => by rcases hs with hs | hs; (have u0 := hgo _ hs; have u1 := hgl _ hs; omega); (have u0 := hFko _ hs; have u1 := lt40 _ hs; omega))
     replace jb1 := jb1.keep hk228 (fun hs => by rcases hs with hs | hs; (have u0 := hgo _ hs; have u1 := hgl _ hs; omega); (have u0 := hFko _ hs; have u1 := lt40 _ hs; omega))
     replace jb3 := jb3.keep hk228 (fun hs => by rcases hs with hs | hs; (have u0 := hgo _ hs; have u1 := hgl _ hs; omega); (have u0 := hFko _ hs; have u1 := lt40 _ hs; omega))
     replace jb5 := jb5.keep hk228 (fun hs => by rcases hs with hs | hs; (have u0 := hgo _ hs; have u1 := hgl _ hs; omega); (have u0 := hFko _ hs; have u1 := lt40 _ hs; omega))
     replace jb7 := jb7.keep hk228 (fun hs => by rcases hs with hs | hs; (have u0 := hgo _ hs; have u1 := hgl _ hs; omega); (have u0 := hFko _ hs; have u1 := lt40 _ hs; omega))
     replace jb29 := jb29.keep hk228 (fun hs => by rcases hs with hs | hs; (have u0 := hgo _ hs; have u1 := hgl _ hs; omega); (have u0 := hFko _ hs; have u1 := lt40 _ hs; omega))
     replace jbs36 := jbs36.keep hk228 (fun hs => by rcases hs with hs | hs; (have u0 := hgo _ hs; have u1 := hgl _ hs; omega); (have u0 := hFko _ hs; have u1 := lt40 _ hs; omega))
     replace jbn37 := jbn37.keep hk228 (fun hs => by rcases hs with hs | hs; (have u0 := hgo _ hs; have u1 := hgl _ hs; omega); (have u0 := hFko _ hs; have u1 := lt40 _ hs; omega))
     replace hb41_46 := hb41_46.keep hk228 (fun hs => by rcases hs with hs | hs; (have u0 := hgo _ hs; have u1 := hgl _ hs; omega); (have u0 := hFko _ hs; have u1 := lt40 _ hs; omega))
     replace hb13 := hb13.keep hk228 (fun hs => by rcases hs with hs | hs; (have u0 := hgo _ hs; have u1 := hgl _ hs; omega); (have u0 := hFko _ hs; have u1 := lt40 _ hs; omega))
     replace jA := SlT.keep jA hk228 (fun q hq hs => by rcases hs with hs | hs; exact (hAo q hq).2.2 hs; exact (fun q h1 h2 => dFA q h2 h1) q hq hs)
     replace jA2 := SlT.keep jA2 hk228 (fun q hq hs => by rcases hs with hs | hs; (have g0 := owA2 q hq; have g1 := ltjA2 q hq; have u9 : q = g := hs; omega); exact (fun q h1 h2 => dFA2 q h2 h1) q hq hs)
     replace jAk := SlT.keep jAk hk228 (fun q hq hs => by rcases hs with hs | hs; exact (fun q h1 h2 => dis179 q h2 h1) q hq (by rw [show q = g from hs]; exact (Rfr.atg hR173)); exact dAkF q hq hs)
     replace jhl := Led.keep jhl hk228 (fun q hq hs => by rcases hs with hs | hs; exact (fun q h1 h2 => dis180 q h2 h1) q hq (by rw [show q = g from hs]; exact (Rfr.atg hR173)); exact (fun q h1 h2 => dFG q h2 h1) q hq hs)
     replace jhK0 := Keep.fresh jhK0 hk228 (fun i hi hs => by rcases hs with hs | hs; (exact .inl hs); (rcases hFkr i hs with h | h; exact .inr <| h; (exfalso; omega)))
     replace hfenb := Keep.fresh hfenb hk228 (by intro i hi hs; rcases hs with hs | hs; (have u0 := hgo i hs; have u1 := hgl i hs; show _ ∨ _; omega); (have u0 := hFko i hs; have u1 := lt40 i hs; show _ ∨ _; omega))
     have own239 : ∀ q, F229 q → (q < w33.heap.size ∨ M1 ≤ q) ∧ q ≠ b1 ∧ q ≠ b3 ∧ q ≠ b5 ∧ q ≠ b7 ∧ q ≠ b29 ∧ q ≠ bs36 ∧ q ≠ bn37 ∧ q ≠ b41 ∧ q ≠ b13 := fun q hq => by rcases hfr231 q hq with h | h; (have h1 := own177 q h; have h2 := lt176 q h; omega); omega
     have lt238 := Rfr.lt ho230
     have rel240 : ∀ q, F229 q → H q ∨ w.heap.size ≤ q := fun q hq => by rcases hfr231 q hq with h | h; exact rel178 q h; exact .inr (by omega)
     have dis241 : ∀ q, F229 q → ¬ inA Ak q := fun q h1 h2 => by rcases hfr231 q h1 with h | h; exact dis179 q h h2; (have h4 := ltjAk q h2; omega)
     have dis242 : ∀ q, F229 q → ¬ G q := fun q h1 h2 => by rcases hfr231 q h1 with h | h; exact dis180 q h h2; (have h4 := hGlt q h2; omega)
     have own244 : ∀ q, F232 q → (q < w33.heap.size ∨ M1 ≤ q) ∧ q ≠ r ∧ q ≠ b1 ∧ q ≠ b3 ∧ q ≠ b5 ∧ q ≠ b7 ∧ q ≠ b29 ∧ q ≠ bs36 ∧ q ≠ bn37 ∧ q ≠ b41 ∧ q ≠ b13 := fun q hq => by rcases hfr234 q hq with h | h; (have h1 := hFko q h; have h2 := lt40 q h; omega); omega
     have lt243 := VotT.lt ho233
     have rel245 : ∀ q, F232 q → F q ∨ w.heap.size ≤ q := fun q hq => by rcases hfr234 q hq with h | h; exact hFkr q h; exact .inr (by omega)
     have dis246 : ∀ q, F232 q → ¬ inA A q := fun q h1 h2 => by rcases hfr234 q h1 with h | h; exact dFA q h h2; (have h4 := ltjA q h2; omega)
     have dis247 : ∀ q, F232 q → ¬ inA A2 q := fun q h1 h2 => by rcases hfr234 q h1 with h | h; exact dFA2 q h h2; (have h4 := ltjA2 q h2; omega)
     have dis248 : ∀ q, F232 q → ¬ inA Ak q := fun q h1 h2 => by rcases hfr234 q h1 with h | h; exact (fun q h1 h2 => dAkF q h2 h1) q h h2; (have h4 := ltjAk q h2; omega)
     have dis249 : ∀ q, F232 q → ¬ G q := fun q h1 h2 => by rcases hfr234 q h1 with h | h; exact dFG q h h2; (have h4 := hGlt q h2; omega)
     refine GI_cellA 50 (.tmp 10) 0 (.slice Ak ((svcK ts (tot xs) now r1 ⟨s, r1, []⟩ k).out.length) capk) (some 67) (by kernel_rfl) (by kernel_rfl) K236 (by kernel_rfl) jb29 (m := 1) (by kernel_rfl) rfl ?_
     refine GI_final 7 (by kernel_rfl) (by kernel_rfl) ?_
     refine OI_slit (E := 53) (zv := .agg #[nt 0, nt 0, nt 0]) (sz := 3) (by_ := 24) 50 1 #[(0, (Operand.tmp 73))] [.agg (Evt.cells (Evt.mk 1 ((k : Nat) : Int) (decE ts x (tallyT ((svcK ts (tot xs) now r1 ⟨s, r1, []⟩ k).s) ((k : Nat) : Int)) (tot xs) now))).toArray] (Evt.cells (Evt.mk 1 ((k : Nat) : Int) (decE ts x (tallyT ((svcK ts (tot xs) now r1 ⟨s, r1, []⟩ k).s) ((k : Nat) : Int)) (tot xs) now))) (some 74) (by kernel_rfl) (by kernel_rfl) (by kernel_rfl) (by omega) rfl (by omega) (by intro v hv; obtain rfl := List.mem_singleton.1 hv; show (Evt.cells (Evt.mk 1 ((k : Nat) : Int) (decE ts x (tallyT ((svcK ts (tot xs) now r1 ⟨s, r1, []⟩ k).s) ((k : Nat) : Int)) (tot xs) now))).toArray.size = 3; simp [Evt.len]) (by kernel_rfl) (by show (Evt.cells (Evt.mk 1 ((k : Nat) : Int) (decE ts x (tallyT ((svcK ts (tot xs) now r1 ⟨s, r1, []⟩ k).s) ((k : Nat) : Int)) (tot xs) now))).toArray.toList ++ [] = _; simp) ?_
     intro b250 w250 e250 hb250 k250 z250
     have hsz251 := Keep.size k250
     replace jr := jr.keep k250 (fun f => f)
     replace jb1 := jb1.keep k250 (fun f => f)
     replace jb3 := jb3.keep k250 (fun f => f)
     replace jb5 := jb5.keep k250 (fun f => f)
     replace jb7 := jb7.keep k250 (fun f => f)
     replace jb29 := jb29.keep k250 (fun f => f)
     replace jbs36 := jbs36.keep k250 (fun f => f)
     replace jbn37 := jbn37.keep k250 (fun f => f)
     replace hb41_46 := hb41_46.keep k250 (fun f => f)
     replace hb13 := hb13.keep k250 (fun f => f)
     replace jA := SlT.keep0 jA k250
     replace jA2 := SlT.keep0 jA2 k250
     replace jAk := SlT.keep0 jAk k250
     replace jhl := Led.keep jhl k250 (fun _ _ f => f)
     replace jhK0 := Keep.tr jhK0 (Keep.ofNone k250)
     replace hfenb := Keep.tr hfenb (Keep.ofNone k250)
     replace ho230 := Rfr.keep ho230 k250 (fun _ _ f => f)
     replace ho233 := VotT.keep ho233 k250 (fun _ _ f => f)
     have hb250lt := hb250.lt
     refine OI_append (t := 50) (at2 := 50) (E := 53) (E2 := 53) (sz := 3) (by_ := 24) (zv := .agg #[nt 0, nt 0, nt 0]) (m := ((svcK ts (tot xs) now r1 ⟨s, r1, []⟩ k).out).length) (k := 1) (.tmp 67) (.tmp 74) (.slice Ak ((svcK ts (tot xs) now r1 ⟨s, r1, []⟩ k).out.length) capk) (.slice (some ⟨b250, 0, none⟩) 1 1) (some 75) (by kernel_rfl) (by kernel_rfl) (by kernel_rfl) (by kernel_rfl) (by kernel_rfl) (by kernel_rfl) (by kernel_rfl) (SlT.slr jAk) (slr_one hb250 (Evt.len ((Evt.mk 1 ((k : Nat) : Int) (decE ts x (tallyT ((svcK ts (tot xs) now r1 ⟨s, r1, []⟩ k).s) ((k : Nat) : Int)) (tot xs) now))))) (Evt.one ((Evt.mk 1 ((k : Nat) : Int) (decE ts x (tallyT ((svcK ts (tot xs) now r1 ⟨s, r1, []⟩ k).s) ((k : Nat) : Int)) (tot xs) now)))) (by first | omega | (simp only [List.length_nil]; omega)) (by omega) (by first | omega | (simp only [List.length_nil]; omega)) (by omega) ?_
     intro vv9 w252 hap
     obtain ⟨A252, cap252, rfl, hA252, hk252, own252x⟩ := app_one (f := Evt.cells) (xs := ((svcK ts (tot xs) now r1 ⟨s, r1, []⟩ k).out)) (x := ((Evt.mk 1 ((k : Nat) : Int) (decE ts x (tallyT ((svcK ts (tot xs) now r1 ⟨s, r1, []⟩ k).s) ((k : Nat) : Int)) (tot xs) now)))) (A := Ak) (cap := capk) hap (fun x _ => Evt.len x) (Evt.len _)
     have own252 : ∀ q, inA A252 q → M1 ≤ q := fun q hq => by rcases own252x q hq with h | h; exact ownk q h; (show M1 ≤ q; omega)
     have hsz253 := Keep.size hk252
     replace jr := jr.keep hk252 (fun hs => by have h1 := ownk _ hs; have h2 := ltjAk _ hs; omega)
     replace jb1 := jb1.keep hk252 (fun hs => by have h1 := ownk _ hs; have h2 := ltjAk _ hs; omega)
     replace jb3 := jb3.keep hk252 (fun hs => by have h1 := ownk _ hs; have h2 := ltjAk _ hs; omega)
     replace jb5 := jb5.keep hk252 (fun hs => by have h1 := ownk _ hs; have h2 := ltjAk _ hs; omega)
     replace jb7 := jb7.keep hk252 (fun hs => by have h1 := ownk _ hs; have h2 := ltjAk _ hs; omega)
     replace jb29 := jb29.keep hk252 (fun hs => by have h1 := ownk _ hs; have h2 := ltjAk _ hs; omega)
     replace jbs36 := jbs36.keep hk252 (fun hs => by have h1 := ownk _ hs; have h2 := ltjAk _ hs; omega)
     replace jbn37 := jbn37.keep hk252 (fun hs => by have h1 := ownk _ hs; have h2 := ltjAk _ hs; omega)
     replace hb41_46 := hb41_46.keep hk252 (fun hs => by have h1 := ownk _ hs; have h2 := ltjAk _ hs; omega)
     replace hb13 := hb13.keep hk252 (fun hs => by have h1 := ownk _ hs; have h2 := ltjAk _ hs; omega)
     replace jA := SlT.keep jA hk252 (fun q hq hs => by have g0 := hAr q hq; have g1 := ltjA q hq; have h1 := ownk q hs; have h2 := ltjAk q hs; omega)
     replace jA2 := SlT.keep jA2 hk252 (fun q hq hs => by have g0 := owA2 q hq; have g1 := ltjA2 q hq; have h1 := ownk q hs; have h2 := ltjAk q hs; omega)
     replace jhl := Led.keep jhl hk252 (fun q hq hs => (fun (q : Nat) (h1 : inA Ak q) (h2 : G q) => by have h3 := ownk q h1; have h4 := hGlt q h2; omega) q hs hq)
     replace jhK0 := Keep.fresh jhK0 hk252 (by intro i hi hs; first | exact hs | (exfalso; have h1 := ownk i hs; have h2 := ltjAk i hs; omega) | (have h1 := ownk i hs; have h2 := ltjAk i hs; show _ ∨ _; omega))
     replace hfenb := Keep.fresh hfenb hk252 (by intro i hi hs; have h1 := ownk i hs; have h2 := ltjAk i hs; show _ ∨ _; omega)
     replace ho230 := Rfr.keep ho230 hk252 (fun q hq hs => (fun q h1 h2 => dis241 q h2 h1) q hs hq)
     replace ho233 := VotT.keep ho233 hk252 (fun q hq hs => (fun q h1 h2 => dis248 q h2 h1) q hs hq)
     have lt252 := SlT.lt hA252
     have dis254 : ∀ q, inA A252 q → ¬ G q := fun q h1 h2 => by rcases own252x q h1 with h | h; exact (fun (q : Nat) (h1 : G q) (h2 : inA Ak q) => by have h3 := ownk q h2; have h4 := hGlt q h1; omega) q h2 h; (have h4 := hGlt q h2; omega)
     have dis255 : ∀ q, inA A252 q → ¬ F229 q := fun q h1 h2 => by rcases own252x q h1 with h | h; exact dis241 q h2 h; (have h4 := lt238 q h2; omega)
     have dis256 : ∀ q, inA A252 q → ¬ F232 q := fun q h1 h2 => by rcases own252x q h1 with h | h; exact dis248 q h2 h; (have h4 := lt243 q h2; omega)
     refine OI_set (m := 1) (kd := false) 50 (.tmp 10) (.tmp 75) 0 (.slice A252 (((svcK ts (tot xs) now r1 ⟨s, r1, []⟩ k).out ++ [((Evt.mk 1 ((k : Nat) : Int) (decE ts x (tallyT ((svcK ts (tot xs) now r1 ⟨s, r1, []⟩ k).s) ((k : Nat) : Int)) (tot xs) now)))]).length) cap252) [.slice A252 (((svcK ts (tot xs) now r1 ⟨s, r1, []⟩ k).out ++ [((Evt.mk 1 ((k : Nat) : Int) (decE ts x (tallyT ((svcK ts (tot xs) now r1 ⟨s, r1, []⟩ k).s) ((k : Nat) : Int)) (tot xs) now)))]).length) cap252] none (by kernel_rfl) (by kernel_rfl) (by kernel_rfl) jb29 (by kernel_rfl) (by kernel_rfl) (by kernel_rfl) (Nat.le_of_ble_eq_true (by kernel_rfl)) (by simp [Value.oneCell']) ?_
     intro w257 hb29_260 hk258 hz259
     replace hb29_260 : Blk w257 b29 [.slice A252 (((svcK ts (tot xs) now r1 ⟨s, r1, []⟩ k).out ++ [((Evt.mk 1 ((k : Nat) : Int) (decE ts x (tallyT ((svcK ts (tot xs) now r1 ⟨s, r1, []⟩ k).s) ((k : Nat) : Int)) (tot xs) now)))]).length) cap252] 50 := hb29_260
     have hsz261 := Keep.size hk258
     replace jr := jr.keep hk258 (by show ¬ (_ = _); omega)
     replace jb1 := jb1.keep hk258 (by show ¬ (_ = _); omega)
     replace jb3 := jb3.keep hk258 (by show ¬ (_ = _); omega)
     replace jb5 := jb5.keep hk258 (by show ¬ (_ = _); omega)
     replace jb7 := jb7.keep hk258 (by show ¬ (_ = _); omega)
     replace jbs36 := jbs36.keep hk258 (by show ¬ (_ = _); omega)
     replace jbn37 := jbn37.keep hk258 (by show ¬ (_ = _); omega)
     replace hb41_46 := hb41_46.keep hk258 (by show ¬ (_ = _); omega)
     replace hb13 := hb13.keep hk258 (by show ¬ (_ = _); omega)
     replace jA := SlT.keep jA hk258 (fun q hq hs => by have hs : q = b29 := hs; have g0 := hAr q hq; have g1 := ltjA q hq; omega)
     replace jA2 := SlT.keep jA2 hk258 (fun q hq hs => by have hs : q = b29 := hs; have g0 := owA2 q hq; have g1 := ltjA2 q hq; omega)
     replace hA252 := SlT.keep hA252 hk258 (fun q hq hs => by have hs : q = b29 := hs; have g0 := own252 q hq; have g1 := lt252 q hq; omega)
     replace jhl := Led.keep jhl hk258 (fun q hq hs => by have hs : q = b29 := hs; have g0 := hlr q hq; have g1 := hGlt q hq; omega)
     replace jhK0 := Keep.fresh jhK0 hk258 (by intro i hi hs; first | exact hs | exact Or.inl hs | exact Or.inr hs | (exfalso; have hs2 : i = b29 := hs; omega))
     replace hfenb := Keep.fresh hfenb hk258 (by intro i hi hs; have hs2 : i = b29 := hs; show _ ∨ _; omega)
     replace ho230 := Rfr.keep ho230 hk258 (fun q hq hs => by have hs : q = b29 := hs; have g0 := own239 q hq; have g1 := lt238 q hq; omega)
     replace ho233 := VotT.keep ho233 hk258 (fun q hq hs => by have hs : q = b29 := hs; have g0 := own244 q hq; have g1 := lt243 q hq; omega)
     refine OI_end rfl ?_
     refine X_block ?_
     have hq9 := hstp.trans (step_end hc49 hc182)
     rw [endR_set (by omega)] at ho230
     exact fun a _ => ⟨hfenb, A252, cap252, F229, F232, jr, jb1, jb3, jb5, jb7, jbs36, jbn37, jA, jA2, jhl, jhK0, by rw [hq9]; exact hb29_260, by rw [hq9]; exact hA252, by rw [hq9]; exact ho230, by rw [hq9]; exact ho233, own252, (fun q hq => by have h1 := own239 q hq; have h2 := lt238 q hq; omega), rel240, (fun q hq => by have h1 := own244 q hq; have h2 := lt243 q hq; omega), rel245, hdis235, dis242, dis249, dis247, dis246, dis255, dis256⟩
    ·
     refine Gc 34 (.tmp 4) 0 (pt r) (some 68) qjb1 (fun hs => by rcases hs with hs | hs; omega; (have h1 := hFko _ hs; omega)) rfl ?_
     refine Gc 33 (.tmp 6) 0 (pt v) (some 69) qjb5 (fun hs => by rcases hs with hs | hs; omega; (have h1 := hFko _ hs; omega)) rfl ?_
     refine Gs [5, 6, 7, 0, 8, 9] [(7, pt b7), (10, pt b29), (68, pt r), (69, pt v), (70, nt ((k : Nat) : Int)), (71, nt (decE ts x (tallyT ((svcK ts (tot xs) now r1 ⟨s, r1, []⟩ k).s) ((k : Nat) : Int)) (tot xs) now))] ?_
     refine Gc 3 (.tmp 7) 0 (nt now) (some 72) qjb7 (fun hs => by rcases hs with hs | hs; omega; (have h1 := hFko _ hs; omega)) rfl ?_
     refine Gk { callee := (Callee.value (Operand.func 52)), args := #[(Operand.tmp 68), (Operand.tmp 69), (Operand.tmp 70), (Operand.tmp 71), (Operand.tmp 72)], argTypes := #[34, 33, 3, 3, 3] } 52 #[pt r, pt v, nt ((k : Nat) : Int), nt (decE ts x (tallyT ((svcK ts (tot xs) now r1 ⟨s, r1, []⟩ k).s) ((k : Nat) : Int)) (tot xs) now), nt now] (some 73) (ends_spec H172 r g ts ((svcK ts (tot xs) now r1 ⟨s, r1, []⟩ k).rs.set ((k : Nat) : Int).toNat (decY ts x (tallyT ((svcK ts (tot xs) now r1 ⟨s, r1, []⟩ k).s) ((k : Nat) : Int)) (tot xs) now)) Fk v ((svcK ts (tot xs) now r1 ⟨s, r1, []⟩ k).s) ((k : Nat) : Int) (decE ts x (tallyT ((svcK ts (tot xs) now r1 ⟨s, r1, []⟩ k).s) ((k : Nat) : Int)) (tot xs) now) now _ hR173 jV dis181 (getA_len (by rw [List.length_set]; omega))) ?_
     rintro _ w264 ⟨rfl, ⟨F266, F269, ho267, ho270, hfr268, hfr271, hdis272⟩, hk265⟩
     have K273 := Keep.fresh K188 hk265 (by intro i hi hs; first | exact hs | (rcases hs with hs | hs; (have u0 := hgo i hs; have u1 := hgl i hs; omega); (have u0 := hFko i hs; have u1 := lt40 i hs; omega)))
     refine ⟨_, rfl, K273, ?_⟩
     have hzK273 := Keep.size K273
     have hsz274 := Keep.size hk265
     replace jr := jr.keep hk265 (fun hs => by rcases hs with hs | hs; (have u0 := hgo _ hs; have u1 := hgl _ hs; omega); (have u0 := hFko _ hs; have u1 := lt40 _ hs; omega))
     replace jb1 := jb1.keep hk265 (fun hs => by rcases hs with hs | hs; (have u0 := hgo _ hs; have u1 := hgl _ hs; omega); (have u0 := hFko _ hs; have u1 := lt40 _ hs; omega))
     replace jb3 := jb3.keep hk265 (fun hs => by rcases hs with hs | hs; (have u0 := hgo _ hs; have u1 := hgl _ hs; omega); (have u0 := hFko _ hs; have u1 := lt40 _ hs; omega))
     replace jb5 := jb5.keep hk265 (fun hs => by rcases hs with hs | hs; (have u0 := hgo _ hs; have u1 := hgl _ hs; omega); (have u0 := hFko _ hs; have u1 := lt40 _ hs; omega))
     replace jb7 := jb7.keep hk265 (fun hs => by rcases hs with hs | hs; (have u0 := hgo _ hs; have u1 := hgl _ hs; omega); (have u0 := hFko _ hs; have u1 := lt40 _ hs; omega))
     replace jb29 := jb29.keep hk265 (fun hs => by rcases hs with hs | hs; (have u0 := hgo _ hs; have u1 := hgl _ hs; omega); (have u0 := hFko _ hs; have u1 := lt40 _ hs; omega))
     replace jbs36 := jbs36.keep hk265 (fun hs => by rcases hs with hs | hs; (have u0 := hgo _ hs; have u1 := hgl _ hs; omega); (have u0 := hFko _ hs; have u1 := lt40 _ hs; omega))
     replace jbn37 := jbn37.keep hk265 (fun hs => by rcases hs with hs | hs; (have u0 := hgo _ hs; have u1 := hgl _ hs; omega); (have u0 := hFko _ hs; have u1 := lt40 _ hs; omega))
     replace hb41_46 := hb41_46.keep hk265 (fun hs => by rcases hs with hs | hs; (have u0 := hgo _ hs; have u1 := hgl _ hs; omega); (have u0 := hFko _ hs; have u1 := lt40 _ hs; omega))
     replace hb13 := hb13.keep hk265 (fun hs => by rcases hs with hs | hs; (have u0 := hgo _ hs; have u1 := hgl _ hs; omega); (have u0 := hFko _ hs; have u1 := lt40 _ hs; omega))
     replace jA := SlT.keep jA hk265 (fun q hq hs => by rcases hs with hs | hs; exact (hAo q hq).2.2 hs; exact (fun q h1 h2 => dFA q h2 h1) q hq hs)
     replace jA2 := SlT.keep jA2 hk265 (fun q hq hs => by rcases hs with hs | hs; (have g0 := owA2 q hq; have g1 := ltjA2 q hq; have u9 : q = g := hs; omega); exact (fun q h1 h2 => dFA2 q h2 h1) q hq hs)
     replace jAk := SlT.keep jAk hk265 (fun q hq hs => by rcases hs with hs | hs; exact (fun q h1 h2 => dis179 q h2 h1) q hq (by rw [show q = g from hs]; exact (Rfr.atg hR173)); exact dAkF q hq hs)
     replace jhl := Led.keep jhl hk265 (fun q hq hs => by rcases hs with hs | hs; exact (fun q h1 h2 => dis180 q h2 h1) q hq (by rw [show q = g from hs]; exact (Rfr.atg hR173)); exact (fun q h1 h2 => dFG q h2 h1) q hq hs)
     replace jhK0 := Keep.fresh jhK0 hk265 (fun i hi hs => by rcases hs with hs | hs; (exact .inl hs); (rcases hFkr i hs with h | h; exact .inr <| h; (exfalso; omega)))
     replace hfenb := Keep.fresh hfenb hk265 (by intro i hi hs; rcases hs with hs | hs; (have u0 := hgo i hs; have u1 := hgl i hs; show _ ∨ _; omega); (have u0 := hFko i hs; have u1 := lt40 i hs; show _ ∨ _; omega))
     have own276 : ∀ q, F266 q → (q < w33.heap.size ∨ M1 ≤ q) ∧ q ≠ b1 ∧ q ≠ b3 ∧ q ≠ b5 ∧ q ≠ b7 ∧ q ≠ b29 ∧ q ≠ bs36 ∧ q ≠ bn37 ∧ q ≠ b41 ∧ q ≠ b13 := fun q hq => by rcases hfr268 q hq with h | h; (have h1 := own177 q h; have h2 := lt176 q h; omega); omega
     have lt275 := Rfr.lt ho267
     have rel277 : ∀ q, F266 q → H q ∨ w.heap.size ≤ q := fun q hq => by rcases hfr268 q hq with h | h; exact rel178 q h; exact .inr (by omega)
     have dis278 : ∀ q, F266 q → ¬ inA Ak q := fun q h1 h2 => by rcases hfr268 q h1 with h | h; exact dis179 q h h2; (have h4 := ltjAk q h2; omega)
     have dis279 : ∀ q, F266 q → ¬ G q := fun q h1 h2 => by rcases hfr268 q h1 with h | h; exact dis180 q h h2; (have h4 := hGlt q h2; omega)
     have own281 : ∀ q, F269 q → (q < w33.heap.size ∨ M1 ≤ q) ∧ q ≠ r ∧ q ≠ b1 ∧ q ≠ b3 ∧ q ≠ b5 ∧ q ≠ b7 ∧ q ≠ b29 ∧ q ≠ bs36 ∧ q ≠ bn37 ∧ q ≠ b41 ∧ q ≠ b13 := fun q hq => by rcases hfr271 q hq with h | h; (have h1 := hFko q h; have h2 := lt40 q h; omega); omega
     have lt280 := VotT.lt ho270
     have rel282 : ∀ q, F269 q → F q ∨ w.heap.size ≤ q := fun q hq => by rcases hfr271 q hq with h | h; exact hFkr q h; exact .inr (by omega)
     have dis283 : ∀ q, F269 q → ¬ inA A q := fun q h1 h2 => by rcases hfr271 q h1 with h | h; exact dFA q h h2; (have h4 := ltjA q h2; omega)
     have dis284 : ∀ q, F269 q → ¬ inA A2 q := fun q h1 h2 => by rcases hfr271 q h1 with h | h; exact dFA2 q h h2; (have h4 := ltjA2 q h2; omega)
     have dis285 : ∀ q, F269 q → ¬ inA Ak q := fun q h1 h2 => by rcases hfr271 q h1 with h | h; exact (fun q h1 h2 => dAkF q h2 h1) q h h2; (have h4 := ltjAk q h2; omega)
     have dis286 : ∀ q, F269 q → ¬ G q := fun q h1 h2 => by rcases hfr271 q h1 with h | h; exact dFG q h h2; (have h4 := hGlt q h2; omega)
     refine GI_slit (E := 53) (zv := .agg #[nt 0, nt 0, nt 0]) (sz := 3) (by_ := 24) 50 1 #[(0, (Operand.tmp 73))] [.agg (Evt.cells (Evt.mk 1 ((k : Nat) : Int) (decE ts x (tallyT ((svcK ts (tot xs) now r1 ⟨s, r1, []⟩ k).s) ((k : Nat) : Int)) (tot xs) now))).toArray] (Evt.cells (Evt.mk 1 ((k : Nat) : Int) (decE ts x (tallyT ((svcK ts (tot xs) now r1 ⟨s, r1, []⟩ k).s) ((k : Nat) : Int)) (tot xs) now))) (some 74) (by kernel_rfl) (by kernel_rfl) K273 (by kernel_rfl) (by kernel_rfl) (by omega) rfl (by omega) (by intro v hv; obtain rfl := List.mem_singleton.1 hv; show (Evt.cells (Evt.mk 1 ((k : Nat) : Int) (decE ts x (tallyT ((svcK ts (tot xs) now r1 ⟨s, r1, []⟩ k).s) ((k : Nat) : Int)) (tot xs) now))).toArray.size = 3; simp [Evt.len]) (by kernel_rfl) (by show (Evt.cells (Evt.mk 1 ((k : Nat) : Int) (decE ts x (tallyT ((svcK ts (tot xs) now r1 ⟨s, r1, []⟩ k).s) ((k : Nat) : Int)) (tot xs) now))).toArray.toList ++ [] = _; simp) ?_
     intro b287 w287 e287 hb287 k287 z287 K288
     have hsz289 := Keep.size k287
     replace jr := jr.keep k287 (fun f => f)
     replace jb1 := jb1.keep k287 (fun f => f)
     replace jb3 := jb3.keep k287 (fun f => f)
     replace jb5 := jb5.keep k287 (fun f => f)
     replace jb7 := jb7.keep k287 (fun f => f)
     replace jb29 := jb29.keep k287 (fun f => f)
     replace jbs36 := jbs36.keep k287 (fun f => f)
     replace jbn37 := jbn37.keep k287 (fun f => f)
     replace hb41_46 := hb41_46.keep k287 (fun f => f)
     replace hb13 := hb13.keep k287 (fun f => f)
     replace jA := SlT.keep0 jA k287
     replace jA2 := SlT.keep0 jA2 k287
     replace jAk := SlT.keep0 jAk k287
     replace jhl := Led.keep jhl k287 (fun _ _ f => f)
     replace jhK0 := Keep.tr jhK0 (Keep.ofNone k287)
     replace hfenb := Keep.tr hfenb (Keep.ofNone k287)
     replace ho267 := Rfr.keep ho267 k287 (fun _ _ f => f)
     replace ho270 := VotT.keep ho270 k287 (fun _ _ f => f)
     have hb287lt := hb287.lt
     refine GI_cellA 50 (.tmp 10) 0 (.slice Ak ((svcK ts (tot xs) now r1 ⟨s, r1, []⟩ k).out.length) capk) (some 67) (by kernel_rfl) (by kernel_rfl) K288 (by kernel_rfl) jb29 (m := 1) (by kernel_rfl) rfl ?_
     refine GI_final 8 (by kernel_rfl) (by kernel_rfl) ?_
     refine OI_append (t := 50) (at2 := 50) (E := 53) (E2 := 53) (sz := 3) (by_ := 24) (zv := .agg #[nt 0, nt 0, nt 0]) (m := ((svcK ts (tot xs) now r1 ⟨s, r1, []⟩ k).out).length) (k := 1) (.tmp 67) (.tmp 74) (.slice Ak ((svcK ts (tot xs) now r1 ⟨s, r1, []⟩ k).out.length) capk) (.slice (some ⟨b287, 0, none⟩) 1 1) (some 75) (by kernel_rfl) (by kernel_rfl) (by kernel_rfl) (by kernel_rfl) (by kernel_rfl) (by kernel_rfl) (by kernel_rfl) (SlT.slr jAk) (slr_one hb287 (Evt.len ((Evt.mk 1 ((k : Nat) : Int) (decE ts x (tallyT ((svcK ts (tot xs) now r1 ⟨s, r1, []⟩ k).s) ((k : Nat) : Int)) (tot xs) now))))) (Evt.one ((Evt.mk 1 ((k : Nat) : Int) (decE ts x (tallyT ((svcK ts (tot xs) now r1 ⟨s, r1, []⟩ k).s) ((k : Nat) : Int)) (tot xs) now)))) (by first | omega | (simp only [List.length_nil]; omega)) (by omega) (by first | omega | (simp only [List.length_nil]; omega)) (by omega) ?_
     intro vv9 w290 hap
     obtain ⟨A290, cap290, rfl, hA290, hk290, own290x⟩ := app_one (f := Evt.cells) (xs := ((svcK ts (tot xs) now r1 ⟨s, r1, []⟩ k).out)) (x := ((Evt.mk 1 ((k : Nat) : Int) (decE ts x (tallyT ((svcK ts (tot xs) now r1 ⟨s, r1, []⟩ k).s) ((k : Nat) : Int)) (tot xs) now)))) (A := Ak) (cap := capk) hap (fun x _ => Evt.len x) (Evt.len _)
     have own290 : ∀ q, inA A290 q → M1 ≤ q := fun q hq => by rcases own290x q hq with h | h; exact ownk q h; (show M1 ≤ q; omega)
     have hsz291 := Keep.size hk290
     replace jr := jr.keep hk290 (fun hs => by have h1 := ownk _ hs; have h2 := ltjAk _ hs; omega)
     replace jb1 := jb1.keep hk290 (fun hs => by have h1 := ownk _ hs; have h2 := ltjAk _ hs; omega)
     replace jb3 := jb3.keep hk290 (fun hs => by have h1 := ownk _ hs; have h2 := ltjAk _ hs; omega)
     replace jb5 := jb5.keep hk290 (fun hs => by have h1 := ownk _ hs; have h2 := ltjAk _ hs; omega)
     replace jb7 := jb7.keep hk290 (fun hs => by have h1 := ownk _ hs; have h2 := ltjAk _ hs; omega)
     replace jb29 := jb29.keep hk290 (fun hs => by have h1 := ownk _ hs; have h2 := ltjAk _ hs; omega)
     replace jbs36 := jbs36.keep hk290 (fun hs => by have h1 := ownk _ hs; have h2 := ltjAk _ hs; omega)
     replace jbn37 := jbn37.keep hk290 (fun hs => by have h1 := ownk _ hs; have h2 := ltjAk _ hs; omega)
     replace hb41_46 := hb41_46.keep hk290 (fun hs => by have h1 := ownk _ hs; have h2 := ltjAk _ hs; omega)
     replace hb13 := hb13.keep hk290 (fun hs => by have h1 := ownk _ hs; have h2 := ltjAk _ hs; omega)
     replace jA := SlT.keep jA hk290 (fun q hq hs => by have g0 := hAr q hq; have g1 := ltjA q hq; have h1 := ownk q hs; have h2 := ltjAk q hs; omega)
     replace jA2 := SlT.keep jA2 hk290 (fun q hq hs => by have g0 := owA2 q hq; have g1 := ltjA2 q hq; have h1 := ownk q hs; have h2 := ltjAk q hs; omega)
     replace jhl := Led.keep jhl hk290 (fun q hq hs => (fun (q : Nat) (h1 : inA Ak q) (h2 : G q) => by have h3 := ownk q h1; have h4 := hGlt q h2; omega) q hs hq)
     replace jhK0 := Keep.fresh jhK0 hk290 (by intro i hi hs; first | exact hs | (exfalso; have h1 := ownk i hs; have h2 := ltjAk i hs; omega) | (have h1 := ownk i hs; have h2 := ltjAk i hs; show _ ∨ _; omega))
     replace hfenb := Keep.fresh hfenb hk290 (by intro i hi hs; have h1 := ownk i hs; have h2 := ltjAk i hs; show _ ∨ _; omega)
     replace ho267 := Rfr.keep ho267 hk290 (fun q hq hs => (fun q h1 h2 => dis278 q h2 h1) q hs hq)
     replace ho270 := VotT.keep ho270 hk290 (fun q hq hs => (fun q h1 h2 => dis285 q h2 h1) q hs hq)
     have lt290 := SlT.lt hA290
     have dis292 : ∀ q, inA A290 q → ¬ G q := fun q h1 h2 => by rcases own290x q h1 with h | h; exact (fun (q : Nat) (h1 : G q) (h2 : inA Ak q) => by have h3 := ownk q h2; have h4 := hGlt q h1; omega) q h2 h; (have h4 := hGlt q h2; omega)
     have dis293 : ∀ q, inA A290 q → ¬ F266 q := fun q h1 h2 => by rcases own290x q h1 with h | h; exact dis278 q h2 h; (have h4 := lt275 q h2; omega)
     have dis294 : ∀ q, inA A290 q → ¬ F269 q := fun q h1 h2 => by rcases own290x q h1 with h | h; exact dis285 q h2 h; (have h4 := lt280 q h2; omega)
     refine OI_set (m := 1) (kd := false) 50 (.tmp 10) (.tmp 75) 0 (.slice A290 (((svcK ts (tot xs) now r1 ⟨s, r1, []⟩ k).out ++ [((Evt.mk 1 ((k : Nat) : Int) (decE ts x (tallyT ((svcK ts (tot xs) now r1 ⟨s, r1, []⟩ k).s) ((k : Nat) : Int)) (tot xs) now)))]).length) cap290) [.slice A290 (((svcK ts (tot xs) now r1 ⟨s, r1, []⟩ k).out ++ [((Evt.mk 1 ((k : Nat) : Int) (decE ts x (tallyT ((svcK ts (tot xs) now r1 ⟨s, r1, []⟩ k).s) ((k : Nat) : Int)) (tot xs) now)))]).length) cap290] none (by kernel_rfl) (by kernel_rfl) (by kernel_rfl) jb29 (by kernel_rfl) (by kernel_rfl) (by kernel_rfl) (Nat.le_of_ble_eq_true (by kernel_rfl)) (by simp [Value.oneCell']) ?_
     intro w295 hb29_298 hk296 hz297
     replace hb29_298 : Blk w295 b29 [.slice A290 (((svcK ts (tot xs) now r1 ⟨s, r1, []⟩ k).out ++ [((Evt.mk 1 ((k : Nat) : Int) (decE ts x (tallyT ((svcK ts (tot xs) now r1 ⟨s, r1, []⟩ k).s) ((k : Nat) : Int)) (tot xs) now)))]).length) cap290] 50 := hb29_298
     have hsz299 := Keep.size hk296
     replace jr := jr.keep hk296 (by show ¬ (_ = _); omega)
     replace jb1 := jb1.keep hk296 (by show ¬ (_ = _); omega)
     replace jb3 := jb3.keep hk296 (by show ¬ (_ = _); omega)
     replace jb5 := jb5.keep hk296 (by show ¬ (_ = _); omega)
     replace jb7 := jb7.keep hk296 (by show ¬ (_ = _); omega)
     replace jbs36 := jbs36.keep hk296 (by show ¬ (_ = _); omega)
     replace jbn37 := jbn37.keep hk296 (by show ¬ (_ = _); omega)
     replace hb41_46 := hb41_46.keep hk296 (by show ¬ (_ = _); omega)
     replace hb13 := hb13.keep hk296 (by show ¬ (_ = _); omega)
     replace jA := SlT.keep jA hk296 (fun q hq hs => by have hs : q = b29 := hs; have g0 := hAr q hq; have g1 := ltjA q hq; omega)
     replace jA2 := SlT.keep jA2 hk296 (fun q hq hs => by have hs : q = b29 := hs; have g0 := owA2 q hq; have g1 := ltjA2 q hq; omega)
     replace hA290 := SlT.keep hA290 hk296 (fun q hq hs => by have hs : q = b29 := hs; have g0 := own290 q hq; have g1 := lt290 q hq; omega)
     replace jhl := Led.keep jhl hk296 (fun q hq hs => by have hs : q = b29 := hs; have g0 := hlr q hq; have g1 := hGlt q hq; omega)
     replace jhK0 := Keep.fresh jhK0 hk296 (by intro i hi hs; first | exact hs | exact Or.inl hs | exact Or.inr hs | (exfalso; have hs2 : i = b29 := hs; omega))
     replace hfenb := Keep.fresh hfenb hk296 (by intro i hi hs; have hs2 : i = b29 := hs; show _ ∨ _; omega)
     replace ho267 := Rfr.keep ho267 hk296 (fun q hq hs => by have hs : q = b29 := hs; have g0 := own276 q hq; have g1 := lt275 q hq; omega)
     replace ho270 := VotT.keep ho270 hk296 (fun q hq hs => by have hs : q = b29 := hs; have g0 := own281 q hq; have g1 := lt280 q hq; omega)
     refine OI_end rfl ?_
     refine X_block ?_
     have hq9 := hstp.trans (step_end hc49 hc182)
     rw [endR_set (by omega)] at ho267
     exact fun a _ => ⟨hfenb, A290, cap290, F266, F269, jr, jb1, jb3, jb5, jb7, jbs36, jbn37, jA, jA2, jhl, jhK0, by rw [hq9]; exact hb29_298, by rw [hq9]; exact hA290, by rw [hq9]; exact ho267, by rw [hq9]; exact ho270, own290, (fun q hq => by have h1 := own276 q hq; have h2 := lt275 q hq; omega), rel277, (fun q hq => by have h1 := own281 q hq; have h2 := lt280 q hq; omega), rel282, hdis272, dis279, dis286, dis284, dis283, dis293, dis294⟩
   refine V_skip ?_
   refine X_block ?_
   have hq9 := hstp.trans (step_on hc49 hc182)
   exact fun a _ => ⟨hfenb, Ak, capk, H172, Fk, jr, jb1, jb3, jb5, jb7, jbs36, jbn37, jA, jA2, jhl, jhK0, by rw [hq9]; exact jb29, by rw [hq9]; exact jAk, by rw [hq9]; exact hR173, by rw [hq9]; exact jV, ownk, (fun q hq => by have h1 := own177 q hq; have h2 := lt176 q hq; omega), rel178, (fun q hq => by have h1 := hFko q hq; have h2 := lt40 q hq; omega), hFkr, dis181, dis180, dFG, dFA2, dFA, (fun q h1 h2 => dis179 q h2 h1), dAkF⟩
 ·
  intro D M1 W hD hM ⟨Ak, capk, Hk, Fk, jr, jb1, jb3, jb5, jb7, jbs36, jbn37, jA, jA2, jhl, jhK0, jb29, jAk, jR, jV, ownk, hHko, hHkr, hFko, hFkr, dHF, dHG, dFG, dFA2, dFA, dAkH, dAkF⟩ hDD
  have hzjhK0 := Keep.size jhK0
  have hrlt := jr.lt
  have hb1lt := jb1.lt
  have hb3lt := jb3.lt
  have hb5lt := jb5.lt
  have hb7lt := jb7.lt
  have hb29lt := jb29.lt
  have hbs36lt := jbs36.lt
  have hbn37lt := jbn37.lt
  have ltjA := SlT.lt jA
  have ltjA2 := SlT.lt jA2
  have ltjAk := SlT.lt jAk
  have lt300 := Rfr.lt jR
  have lt301 := VotT.lt jV
  refine X_block ?_
  refine X_then ?_
  refine Vr ?_
  refine Oc 50 (.tmp 10) 0 (.slice Ak ((svcK ts (tot xs) now r1 ⟨s, r1, []⟩ r1.length).out.length) capk) (some 76) jb29 rfl ?_
  refine Os 2 [(8, .slice Ak ((svcK ts (tot xs) now r1 ⟨s, r1, []⟩ r1.length).out.length) capk)] ?_
  refine Oe ?_
  refine V_ret ?_
  have hfin : svcQ ts xs s rs now = svcK ts (tot xs) now r1 ⟨s, r1, []⟩ r1.length := by unfold svcQ; rw [← hr1, hr1l]
  exact leave1 (.slice Ak (svcK ts (tot xs) now r1 ⟨s, r1, []⟩ r1.length).out.length capk) (.inl rfl) hDD (fun w' hk => ⟨res_tmps rfl, ⟨Ak, capk, by rw [hfin], by rw [hfin]; exact SlT.quiet jAk hk, (fun q h => by have h1 := ownk q h; omega), ⟨Hk, Fk, by rw [hfin]; exact Rfr.quiet jR hk, by rw [hfin]; exact VotT.quiet jV hk, hHkr, hFkr, dHF, dAkH, dAkF⟩, Keep.quiet jhK0 hk (by omega)⟩⟩)
end Go.Al

