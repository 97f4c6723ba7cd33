/-
  Put together out of 9 texts: Walks of package refer: Kill. New. Walks of the laws of refer: the document's answers. Calls; which of them may be. A call that is handed in. How large a call is. What calls do. Walks of package act: a spend. Walks of package act: a batch.
-/
import Derived.Test.YtcaiibbhnalffaaGreatActNoneB3
namespace Go.Al
open Go Go.RowKit Go.Proofs
set_option maxRecDepth 10000 in
set_option maxHeartbeats 2000000 in
theorem kill_go (H : Nat → Prop) (r g : Nat) (ts : List Trk) (rs : List Rfm) (F : Nat → Prop) (v : Nat) (s : VS) (G : Nat → Prop) (l : Nat) (xs : List Acc) (cs : List Ci) (ref now : Int) (w : World) (hR : Rfr H w r g ts rs) (hV : VotT F w v s) (hl : Led G w l xs cs) (hHF : ∀ q, H q → ¬ F q) (hHG : ∀ q, H q → ¬ G q) (hFG : ∀ q, F q → ¬ G q) (hong : ongE rs ref = 0) : Calls Tryz.prog 63 #[pt r, pt l, pt v, nt ref, nt now] w fun e w' => ∃ A' cap', e = .returned (.tuple #[.slice A' (kilL xs ts rs ref).length cap', nt (ongE rs ref)]) ∧ SlT w' 3 Evt.cells A' cap' (kilL xs ts rs ref) ∧ (∀ q, inA A' q → w.heap.size ≤ q) ∧ (∃ H' F' G', Rfr H' w' r g ts (kilR s rs ref now) ∧ VotT F' w' v (kilS s rs ref now) ∧ Led G' w' l (kilX xs ts rs ref) cs ∧ (∀ q, H' q → H q ∨ w.heap.size ≤ q) ∧ (∀ q, F' q → F q ∨ w.heap.size ≤ q) ∧ (∀ q, G' q → G q ∨ w.heap.size ≤ q) ∧ (∀ q, H' q → ¬ F' q) ∧ (∀ q, H' q → ¬ G' q) ∧ (∀ q, F' q → ¬ G' q) ∧ (∀ q, inA A' q → ¬ H' q) ∧ (∀ q, inA A' q → ¬ F' q) ∧ (∀ q, inA A' q → ¬ G' q)) ∧ Keep (fun q => q = g ∨ F q ∨ G q) w w' := by
 have hHlt := Rfr.lt hR
 have hrH := Rfr.at_ hR
 have hgH := Rfr.atg hR
 have hrlt := hHlt _ hrH
 have hglt := hHlt _ hgH
 have hin := Rfr.inn hR
 obtain ⟨A, cap, hr, hA, hAo, hrg⟩ := Rfr.parts hR
 have hAlt := SlT.lt hA
 have hAr : ∀ q, inA A q → q ≠ r ∧ q ≠ g ∧ q < w.heap.size := fun q hq => ⟨(hAo q hq).2.1, (hAo q hq).2.2, hAlt q hq⟩
 have hgo : ∀ q, only g q → q ≠ r ∧ q = g := fun q hq => ⟨fun e => hrg (e.symm.trans hq), hq⟩
 have hgl : ∀ q, only g q → q < w.heap.size := fun q hq => by rw [show q = g from hq]; exact hglt
 have hHo : ∀ q, H q → 0 ≤ q := fun q _ => Nat.zero_le q
 have htl := hin.tl
 have hrl := hin.rl
 have hFlt := VotT.lt hV
 have hvlt := hFlt _ (VotT.at_ hV)
 have hVr : ∀ q, F q → q ≠ r := fun q hq e => hHF r hrH (e ▸ hq)
 have hGlt := Led.lt hl
 have hllt := hGlt _ (Led.at_ hl)
 have hlr : ∀ q, G q → q ≠ r := fun q hq e => hHG r hrH (e ▸ hq)
 have hinv := Led.inv hl
 have hHr : ∀ q, H q → H q ∨ w.heap.size ≤ q := fun _ h => .inl h
 have hFr : ∀ q, F q → F q ∨ w.heap.size ≤ q := fun _ h => .inl h
 have hGr : ∀ q, G q → G q ∨ w.heap.size ≤ q := fun _ h => .inl h
 have hx := ong_some hong
 obtain ⟨href, htr, hrat⟩ := getA_at hin hx
 obtain ⟨jt, hjt, hjl, htk, htm⟩ := trkA_at htr
 have hokt := hin.tok _ htm
 have hdep : 0 ≤ (trkA ts (getA rs ref).track).deposit ∧ (trkA ts (getA rs ref).track).deposit ≤ 1073741824 := hokt.2.1
 have hK0 : Keep (fun q => q = g ∨ F q ∨ G q) w w := Keep.refl _ _
 have hzhK0 := Keep.size hK0
 refine enterV Tryz.func63 rfl [pt r, pt l, pt v, nt ref, nt now] 78 rfl rfl rfl ?_
 refine Vr ?_
 refine OI_box 31 (.tmp 1) (pt l) [pt l] (some 6) (by kernel_rfl) (by kernel_rfl) (by kernel_rfl) ?_
 intro b1 w1 e1 hb1 k1 z1
 have hsz2 := Keep.size k1
 replace hr := hr.k0 k1
 replace hA := hA.keep0 k1
 replace hR := hR.keep k1 nk
 replace hV := hV.keep k1 nk
 replace hl := hl.keep k1 nk
 replace hK0 := hK0.tn k1
 have hb1lt := hb1.lt
 refine On 3 [0, 2, 3, 4, 6] ?_
 refine Oe ?_
 refine V_seq ?_
 refine Vr ?_
 refine On 3 [0, 2, 3, 4, 6, 19] ?_
 refine Oc 31 (.tmp 6) 0 (pt l) (some 20) hb1 rfl ?_
 refine Ose [(0, pt r), (2, pt v), (3, nt ref), (4, nt now), (6, pt b1), (26, .bool false)] ?_
 refine V_false rfl ?_
 refine V_skip ?_
 refine X_then ?_
 refine V_seq ?_
 refine Vr ?_
 refine On 2 [0, 2, 3, 4, 6, 27, 28] ?_
 refine Ok (kL 87 #[(.tmp 27), (.tmp 28)] #[33, 3]) 87 #[pt r, nt ref] (some 29) (ongoing_spec H r g ts rs ref _ hR) ?_
 rintro _ w5 ⟨rfl, hk6⟩
 refine ⟨_, rfl, ?_⟩
 have hsz7 := Keep.size hk6
 replace hr := hr.k0 hk6
 replace hb1 := hb1.k0 hk6
 replace hA := hA.keep0 hk6
 replace hR := hR.keep hk6 nk
 replace hV := hV.keep hk6 nk
 replace hl := hl.keep hk6 nk
 replace hK0 := hK0.tn hk6
 refine On 4 [0, 2, 3, 4, 6, 12] ?_
 refine Oer ?_
 refine Ose [(0, pt r), (2, pt v), (3, nt ref), (4, nt now), (6, pt b1), (12, nt (ongE rs ref)), (31, .bool (!(decide (ongE rs ref = 0))))] ?_
 refine V_eq [(0, pt r), (2, pt v), (3, nt ref), (4, nt now), (6, pt b1), (12, nt (ongE rs ref)), (31, .bool false)] (by rw [decide_eq_true hong]; rfl) ?_
 refine V_false rfl ?_
 refine V_skip ?_
 refine X_then ?_
 refine Vr ?_
 refine On 4 [0, 3, 6, 33, 34, 35, 36] ?_
 refine Ok (kL 88 #[(.tmp 33), (.tmp 34), (.tmp 35), (.const (nt 6)), (.tmp 36)] #[33, 32, 3, 3, 3]) 88 #[pt r, pt v, nt ref, nt 6, nt now] (some 37) (ends_spec H r g ts rs F v s ref 6 now _ hR hV hHF (ong_some hong)) ?_
 rintro _ w11 ⟨rfl, ⟨F13, F16, ho14, ho17, hfr15, hfr18, hdis19⟩, hk12⟩
 refine ⟨_, rfl, ?_⟩
 have hsz20 := Keep.size hk12
 replace hr := hr.keep hk12 (fun hs => by rcases hs with hs | hs; (have u0 := hgo _ hs; have u1 := hgl _ hs; omega); (have u0 := hVr _ hs; have u1 := hFlt _ hs; omega))
 replace hb1 := hb1.keep hk12 (fun hs => by rcases hs with hs | hs; (have u0 := hgo _ hs; have u1 := hgl _ hs; omega); (have u0 := hVr _ hs; have u1 := hFlt _ hs; omega))
 replace hA := hA.keep hk12 (fun q hq hs => by rcases hs with hs | hs; exact (hAo q hq).2.2 hs; exact (fun q h1 h2 => hHF q (hAo q h1).1 h2) q hq hs)
 replace hl := hl.keep hk12 (fun q hq hs => by rcases hs with hs | hs; exact (fun q h1 h2 => hHG q h2 h1) q hq (by rw [show q = g from hs]; exact hgH); exact (fun q h1 h2 => hFG q h2 h1) q hq hs)
 replace hK0 := Keep.fresh hK0 hk12 (fun i hi hs => by rcases hs with hs | hs; (exact .inl hs); (rcases hFr i hs with h | h; exact .inr <| .inl h; (exfalso; omega)))
 have own22 : ∀ q, F13 q → 0 ≤ q ∧ q ≠ b1 := fun q hq => by rcases hfr15 q hq with h | h; (have h1 := hHo q h; have h2 := hHlt q h; omega); omega
 have lt21 := Rfr.lt ho14
 have rel23 : ∀ q, F13 q → H q ∨ w.heap.size ≤ q := fun q hq => by rcases hfr15 q hq with h | h; exact hHr q h; exact .inr (by omega)
 have dis24 : ∀ q, F13 q → ¬ G q := fun q h1 h2 => by rcases hfr15 q h1 with h | h; exact hHG q h h2; (have h4 := hGlt q h2; omega)
 have own26 : ∀ q, F16 q → q ≠ r ∧ q ≠ r ∧ q ≠ b1 := fun q hq => by rcases hfr18 q hq with h | h; (have h1 := hVr q h; have h2 := hFlt q h; omega); omega
 have lt25 := VotT.lt ho17
 have rel27 : ∀ q, F16 q → F q ∨ w.heap.size ≤ q := fun q hq => by rcases hfr18 q hq with h | h; exact hFr q h; exact .inr (by omega)
 have dis28 : ∀ q, F16 q → ¬ inA A q := fun q h1 h2 => by rcases hfr18 q h1 with h | h; exact (fun q h1 h2 => hHF q (hAo q h2).1 h1) q h h2; (have h4 := hAlt q h2; omega)
 have dis29 : ∀ q, F16 q → ¬ G q := fun q h1 h2 => by rcases hfr18 q h1 with h | h; exact hFG q h h2; (have h4 := hGlt q h2; omega)
 refine OI_slit (E := 52) (zv := .agg #[nt 0, nt 0, nt 0]) (sz := 3) (by_ := 24) 27 1 #[(0, (Operand.tmp 37))] [.agg (Evt.cells (Evt.mk 1 ref 6)).toArray] (Evt.cells (Evt.mk 1 ref 6)) (some 38) (by kernel_rfl) (by kernel_rfl) (by kernel_rfl) (by omega) rfl (by omega) (by intro v hv; obtain rfl := List.mem_singleton.1 hv; show (Evt.cells (Evt.mk 1 ref 6)).toArray.size = 3; simp [Evt.len]) (by kernel_rfl) (by show (Evt.cells (Evt.mk 1 ref 6)).toArray.toList ++ [] = _; simp) ?_
 intro b30 w30 e30 hb30 k30 z30
 have hsz31 := Keep.size k30
 replace hr := hr.k0 k30
 replace hb1 := hb1.k0 k30
 replace hA := hA.keep0 k30
 replace hl := hl.keep k30 nk
 replace hK0 := hK0.tn k30
 replace ho14 := ho14.keep k30 nk
 replace ho17 := ho17.keep k30 nk
 have hb30lt := hb30.lt
 refine OI_alloc 27 (.slice none 0 0) [.slice none 0 0] (some 13) (by kernel_rfl) (by kernel_rfl) (by kernel_rfl) ?_
 intro b32 w32 e32 hb32 k32 z32
 have hsz33 := Keep.size k32
 replace hr := hr.k0 k32
 replace hb1 := hb1.k0 k32
 replace hb30 := hb30.k0 k32
 replace hA := hA.keep0 k32
 replace hl := hl.keep k32 nk
 replace hK0 := hK0.tn k32
 replace ho14 := ho14.keep k32 nk
 replace ho17 := ho17.keep k32 nk
 have hb32lt := hb32.lt
 refine Ot 27 (.tmp 13) (.tmp 38) 0 (sl_ b30 0 1 1) hb32 ?_
 intro w34 hb32_37 hk35 hz36
 replace hb32_37 : Blk w34 b32 [sl_ b30 0 1 1] 27 := hb32_37
 have hsz38 := Keep.size hk35
 replace hr := hr.k1 hk35
 replace hb1 := hb1.k1 hk35
 replace hb30 := hb30.k1 hk35
 replace hA := hA.keep hk35 (fun q hq hs => by have hs : q = b32 := hs; have g0 := hAr q hq; have g1 := hAlt q hq; omega)
 replace hl := hl.keep hk35 (fun q hq hs => by have hs : q = b32 := hs; have g0 := hlr q hq; have g1 := hGlt q hq; omega)
 replace hK0 := Keep.fr hK0 hk35
 replace ho14 := ho14.keep hk35 (fun q hq hs => by have hs : q = b32 := hs; have g0 := own22 q hq; have g1 := lt21 q hq; omega)
 replace ho17 := ho17.keep hk35 (fun q hq hs => by have hs : q = b32 := hs; have g0 := own26 q hq; have g1 := lt25 q hq; omega)
 refine Oer ?_
 refine On 2 [0, 3, 6, 13, 40, 41] ?_
 obtain ⟨hge1, hge2, hge3⟩ := endR_at (s := s) (st := 6) (now := now) (ong_some hong)
 refine Ok (kL 11 #[(.tmp 40), (.tmp 41)] #[33, 3]) 11 #[pt r, nt ref] (some 42) (rget_spec F13 r g ts (endR s rs ref 6 now) ref _ ho14) ?_
 rintro _ w41 ⟨rfl, hk42⟩
 refine ⟨_, rfl, ?_⟩
 have hsz43 := Keep.size hk42
 replace hr := hr.k0 hk42
 replace hb1 := hb1.k0 hk42
 replace hb30 := hb30.k0 hk42
 replace hb32_37 := hb32_37.k0 hk42
 replace hA := hA.keep0 hk42
 replace hl := hl.keep hk42 nk
 replace hK0 := hK0.tn hk42
 replace ho14 := ho14.keep hk42 nk
 replace ho17 := ho17.keep hk42 nk
 refine Op_ [(0, pt r), (3, nt ref), (6, pt b1), (13, pt b32), (42, .tuple #[.agg (Rfm.cells (getA (endR s rs ref 6 now) ref)).toArray, .bool ((getR (endR s rs ref 6 now) ref).isSome)])] ?_
 refine Oq (u := .tuple #[.agg (Rfm.cells (getA (endR s rs ref 6 now) ref)).toArray, .bool ((getR (endR s rs ref 6 now) ref).isSome)]) (v := .tuple #[.agg (Rfm.cells (endY s (getA rs ref) ref 6 now)).toArray, .bool true]) 42 (by rw [hge2, hge1]; rfl) ?_
 refine On 6 [0, 3, 6, 13, 43, 44] ?_
 refine OI_alloc 44 (.agg (Rfm.cells Rfm.zero).toArray) (Rfm.cells Rfm.zero) (some 14) (by kernel_rfl) (by kernel_rfl) (by kernel_rfl) ?_
 intro b44 w44 e44 hb44 k44 z44
 have hsz45 := Keep.size k44
 replace hr := hr.k0 k44
 replace hb1 := hb1.k0 k44
 replace hb30 := hb30.k0 k44
 replace hb32_37 := hb32_37.k0 k44
 replace hA := hA.keep0 k44
 replace hl := hl.keep k44 nk
 replace hK0 := hK0.tn k44
 replace ho14 := ho14.keep k44 nk
 replace ho17 := ho17.keep k44 nk
 have hb44lt := hb44.lt
 refine Otg 44 (.tmp 14) (.tmp 43) 0 (Rfm.cells (endY s (getA rs ref) ref 6 now)) hb44 (Rfm.len _) (Rfm.one _) ?_
 intro w46 hb44_49 hk47 hz48
 replace hb44_49 : Blk w46 b44 (Rfm.cells (endY s (getA rs ref) ref 6 now)) 44 := (Blk.eqL (Rfm.over _ _) hb44_49)
 have hsz50 := Keep.size hk47
 replace hr := hr.k1 hk47
 replace hb1 := hb1.k1 hk47
 replace hb30 := hb30.k1 hk47
 replace hb32_37 := hb32_37.k1 hk47
 replace hA := hA.keep hk47 (fun q hq hs => by have hs : q = b44 := hs; have g0 := hAr q hq; have g1 := hAlt q hq; omega)
 replace hl := hl.keep hk47 (fun q hq hs => by have hs : q = b44 := hs; have g0 := hlr q hq; have g1 := hGlt q hq; omega)
 replace hK0 := Keep.fr hK0 hk47
 replace ho14 := ho14.keep hk47 (fun q hq hs => by have hs : q = b44 := hs; have g0 := own22 q hq; have g1 := lt21 q hq; omega)
 replace ho17 := ho17.keep hk47 (fun q hq hs => by have hs : q = b44 := hs; have g0 := own26 q hq; have g1 := lt25 q hq; omega)
 refine On 9 [0, 3, 6, 13, 14] ?_
 refine Oer ?_
 refine On 2 [0, 3, 13, 14, 16] ?_
 refine Oe ?_
 refine V_seq ?_
 refine Vr ?_
 refine Os 1 [(0, pt r), (3, nt ref), (13, pt b32), (14, pt b44), (16, .func (.func 89) #[] #[pt b32, pt b1]), (46, po_ b44 37)] ?_
 refine Oc 4 (.tmp 46) 37 (.bool ((getA rs ref).put)) (some 47) hb44_49 rfl ?_
 refine Oe ?_
 refine V_ifb ((getA rs ref).put) (by kernel_rfl) (fun hc51 => ?_) (fun hc51 => ?_)
 ·
  refine V_region ?_
  refine On 2 [0, 3, 13, 14, 16, 48, 49] ?_
  refine Oc 3 (.tmp 49) 36 (nt ((getA rs ref).by_)) (some 50) hb44_49 rfl ?_
  refine Ok { callee := (Callee.value (Operand.tmp 48)), args := #[(Operand.tmp 50), (Operand.const (Value.int IntKind.i64 10))], argTypes := #[3, 3] } 89 #[nt ((getA rs ref).by_), nt 10, pt b32, pt b1] (some 51) (kill1_spec (some ⟨b30, 0, none⟩) 1 [((Evt.mk 1 ref 6))] b32 b1 G l xs cs ((getA rs ref).by_) 10 _ hb32_37 hb1 (slt_blk hb30 Evt.len rfl) hl (fun q h => by have h1 := inA_some h; omega) (fun q h => by have h1 := hlr q h; have h2 := hGlt q h; omega) (fun q h1 h2 => by have h3 := inA_some h1; have h4 := hGlt q h2; omega) (by simp) (by omega)) ?_
  rintro _ w52 ⟨A54, cap54, rfl, hbo54, hA54, fr54, ⟨G54, ho54, hfr54, hdA54⟩, hk53⟩
  refine ⟨_, rfl, ?_⟩
  have hsz55 := Keep.size hk53
  replace hr := hr.keep hk53 (fun hs => by rcases hs with hs | hs | hs; (have u0 := hlr _ hs; have u1 := hGlt _ hs; omega); (have u0 : _ = b32 := hs; omega); (have u0 := inA_some hs; omega))
  replace hb1 := hb1.keep hk53 (fun hs => by rcases hs with hs | hs | hs; (have u0 := hlr _ hs; have u1 := hGlt _ hs; omega); (have u0 : _ = b32 := hs; omega); (have u0 := inA_some hs; omega))
  replace hb44_49 := hb44_49.keep hk53 (fun hs => by rcases hs with hs | hs | hs; (have u0 := hlr _ hs; have u1 := hGlt _ hs; omega); (have u0 : _ = b32 := hs; omega); (have u0 := inA_some hs; omega))
  replace hA := hA.keep hk53 (fun q hq hs => by rcases hs with hs | hs | hs; exact (fun q h1 h2 => hHG q (hAo q h1).1 h2) q hq hs; (have g0 := hAr q hq; have g1 := hAlt q hq; have u0 : q = b32 := hs; omega); (have g0 := hAr q hq; have g1 := hAlt q hq; have u0 := inA_some hs; omega))
  replace hK0 := Keep.fresh hK0 hk53 (fun i hi hs => by rcases hs with hs | hs | hs; (rcases hGr i hs with h | h; exact .inr <| .inr <| h; (exfalso; omega)); (exfalso; have hs : i = b32 := hs; omega); (exfalso; have hs := inA_some hs; omega))
  replace ho14 := ho14.keep hk53 (fun q hq hs => by rcases hs with hs | hs | hs; exact dis24 q hq hs; (have g0 := own22 q hq; have g1 := lt21 q hq; have u0 : q = b32 := hs; omega); (have g0 := own22 q hq; have g1 := lt21 q hq; have u0 := inA_some hs; omega))
  replace ho17 := ho17.keep hk53 (fun q hq hs => by rcases hs with hs | hs | hs; exact dis29 q hq hs; (have g0 := own26 q hq; have g1 := lt25 q hq; have u0 : q = b32 := hs; omega); (have g0 := own26 q hq; have g1 := lt25 q hq; have u0 := inA_some hs; omega))
  have hb32lt := hbo54.lt
  replace hbo54 : Blk w52 b32 [.slice A54 ([((Evt.mk 1 ref 6))] ++ [Evt.mk 6 ((getA rs ref).by_) (tkN xs ((getA rs ref).by_) 10)]).length cap54] 27 := by rw [List.length_append]; exact hbo54
  have own57 : ∀ q, G54 q → q ≠ r ∧ q ≠ r ∧ q ≠ b1 ∧ q ≠ b44 ∧ q ≠ b32 := fun q hq => by rcases hfr54 q hq with h | h; (have h1 := hlr q h; have h2 := hGlt q h; omega); omega
  have lt56 := Led.lt ho54
  have rel58 : ∀ q, G54 q → G q ∨ w.heap.size ≤ q := fun q hq => by rcases hfr54 q hq with h | h; exact hGr q h; exact .inr (by omega)
  have dis59 : ∀ q, G54 q → ¬ inA A q := fun q h1 h2 => by rcases hfr54 q h1 with h | h; exact (fun q h1 h2 => hHG q (hAo q h2).1 h1) q h h2; (have h4 := hAlt q h2; omega)
  have dis60 : ∀ q, G54 q → ¬ F13 q := fun q h1 h2 => by rcases hfr54 q h1 with h | h; exact (fun q h1 h2 => dis24 q h2 h1) q h h2; (have h4 := lt21 q h2; omega)
  have dis61 : ∀ q, G54 q → ¬ F16 q := fun q h1 h2 => by rcases hfr54 q h1 with h | h; exact (fun q h1 h2 => dis29 q h2 h1) q h h2; (have h4 := lt25 q h2; omega)
  have ltA54 := SlT.lt hA54
  have owA54 : ∀ q, inA A54 q → w.heap.size ≤ q ∧ q ≠ r ∧ q ≠ b1 ∧ q ≠ b44 ∧ q ≠ b32 := fun q hq => by rcases fr54 q hq with h | h; (have h8 := inA_some h; omega); omega
  have dis62 : ∀ q, inA A54 q → ¬ F13 q := fun q h1 h2 => by rcases fr54 q h1 with h | h; (have h3 := inA_some h; have h4 := lt21 q h2; have h5 := own22 q h2; omega); (have h4 := lt21 q h2; omega)
  have dis63 : ∀ q, inA A54 q → ¬ F16 q := fun q h1 h2 => by rcases fr54 q h1 with h | h; (have h3 := inA_some h; have h4 := lt25 q h2; have h5 := own26 q h2; omega); (have h4 := lt25 q h2; omega)
  have dis64 := hdA54
  refine Oe ?_
  refine V_seq ?_
  refine Vr ?_
  refine On 1 [0, 3, 13, 14, 16, 52] ?_
  refine Oc 3 (.tmp 52) 38 (nt ((getA rs ref).backer)) (some 53) hb44_49 rfl ?_
  refine Ose [(0, pt r), (3, nt ref), (13, pt b32), (14, pt b44), (16, .func (.func 89) #[] #[pt b32, pt b1]), (54, .bool (!(decide ((getA rs ref).backer = -1))))] ?_
  refine V_not ((getA rs ref).backer = -1) (by kernel_rfl) (fun hc65 => ?_) (fun hc65 => ?_)
  ·
   refine V_draws (acts [12]) none_ [[0, 1, 2, 3, 4, 5, 6, 7, 8, 9, 10, 11, 12]] (by kernel_rfl) (by repeat first | exact (by first | exact sure_body (by rintro _ _ ⟨_, _, h, _⟩; exact ⟨_, h⟩) | exact sure_body (by rintro _ _ ⟨_, _, h, _⟩; exact ⟨_, h⟩)) | refine sure_then ?_ | refine sure_block ?_ | refine sure_join ?_) (by kernel_rfl) ?_
   intro w67 hk66 he68 L hL69
   have hsz70 := Keep.size hk66
   replace hr := hr.k0 hk66
   replace hb1 := hb1.k0 hk66
   replace hb44_49 := hb44_49.k0 hk66
   replace hbo54 := hbo54.k0 hk66
   replace hA := hA.keep0 hk66
   replace hA54 := hA54.keep0 hk66
   replace hK0 := hK0.tn hk66
   replace ho14 := ho14.keep hk66 nk
   replace ho17 := ho17.keep hk66 nk
   replace ho54 := ho54.keep hk66 nk
   have qhr := hr
   have qhb1 := hb1
   have qhb44_49 := hb44_49
   have qhbo54 := hbo54
   have K71 : Keep none_ w67 w67 := Keep.refl _ _
   obtain rfl := List.mem_singleton.1 hL69
   refine Gn [2, 3, 4, 5, 6, 7, 8, 9, 10, 11, 12] [0, 3, 13, 14, 55, 56] ?_
   refine Gc0 3 (.tmp 56) 38 (nt ((getA rs ref).backer)) (some 57) qhb44_49 rfl ?_
   refine Gn [6, 7, 8, 9, 10, 11, 12] [0, 3, 13, 14, 55, 57, 60] ?_
   refine Gc0 67 (.tmp 60) 0 (.slice A ts.length cap) (some 61) qhr rfl ?_
   refine Gn [8, 9, 10, 11, 12] [0, 3, 13, 14, 55, 57, 61, 62] ?_
   refine Gc0 3 (.tmp 62) 1 (nt ((getA rs ref).track)) (some 63) qhb44_49 rfl ?_
   obtain ⟨b72, o72, L72, T72, rfl, hat72⟩ := SlT.opn hA
   have hb72lt := hat72.blk.lt
   have hob73 := hAr b72 ⟨_, rfl, rfl⟩
   have hob74 := hAlt b72 ⟨_, rfl, rfl⟩
   have hne75 : ∀ q, F16 q → q ≠ b72 := fun q hq hs => dis28 q hq ⟨_, rfl, hs⟩
   have own76 := fun q hq => And.intro (own26 q hq) (hne75 q hq)
   have hne77 : ∀ q, G54 q → q ≠ b72 := fun q hq hs => dis59 q hq ⟨_, rfl, hs⟩
   have own78 := fun q hq => And.intro (own57 q hq) (hne77 q hq)
   refine Gp_ [(0, pt r), (3, nt ref), (13, pt b32), (14, pt b44), (55, .func (.func 89) #[] #[pt b32, pt b1]), (57, nt ((getA rs ref).backer)), (61, sl_ b72 o72 ts.length cap), (63, nt ((getA rs ref).track))] ?_
   refine GI_eq [(0, pt r), (3, nt ref), (13, pt b32), (14, pt b44), (55, .func (.func 89) #[] #[pt b32, pt b1]), (57, nt ((getA rs ref).backer)), (61, sl_ b72 o72 ts.length cap), (63, nt (jt : Int))] (by rw [hjt]) ?_
   refine GI_pure (some 64) (.indexAddr 67 (.tmp 61) (.tmp 63)) (by kernel_rfl) (by kernel_rfl) (pure_idxN (b := b72) (o := o72) (len := ts.length) (cap := cap) (kd := .i64) (j := jt) (E := 80) (sz := 18) (by_ := 144) (by kernel_rfl) (by kernel_rfl) (by kernel_rfl) (by omega)) ?_
   refine Gn [11, 12] [0, 3, 13, 14, 55, 57, 65] ?_
   refine Gc0 3 (.tmp 65) (o72 + jt * 18 + 1) (nt ((trkA ts (getA rs ref).track).deposit)) (some 66) hat72.blk (At.cell hat72 (es_at htk) rfl) ?_
   refine GI_final 12 (by kernel_rfl) (by kernel_rfl) ?_
   refine Ok { callee := (Callee.value (Operand.tmp 55)), args := #[(Operand.tmp 57), (Operand.tmp 66)], argTypes := #[3, 3] } 89 #[nt ((getA rs ref).backer), nt ((trkA ts (getA rs ref).track).deposit), pt b32, pt b1] (some 67) (kill1_spec A54 cap54 ([((Evt.mk 1 ref 6))] ++ [Evt.mk 6 ((getA rs ref).by_) (tkN xs ((getA rs ref).by_) 10)]) b32 b1 G54 l (slX xs ((getA rs ref).by_) 10) cs ((getA rs ref).backer) ((trkA ts (getA rs ref).track).deposit) _ hbo54 hb1 hA54 ho54 (fun q h => by have h1 := owA54 q h; have h2 := ltA54 q h; omega) (fun q h => by have h1 := own78 q h; have h2 := lt56 q h; omega) (fun q h1 h2 => (fun q h1 h2 => dis64 q h2 h1) q h2 h1) (by simp) (by omega)) ?_
   rintro _ w79 ⟨A81, cap81, rfl, hbo81, hA81, fr81, ⟨G81, ho81, hfr81, hdA81⟩, hk80⟩
   refine ⟨_, rfl, ?_⟩
   have hsz82 := Keep.size hk80
   replace hr := hr.keep hk80 (fun hs => by rcases hs with hs | hs | hs; (have u0 := own78 _ hs; have u1 := lt56 _ hs; omega); (have u0 : _ = b32 := hs; omega); (have u0 := owA54 _ hs; have u1 := ltA54 _ hs; omega))
   replace hb1 := hb1.keep hk80 (fun hs => by rcases hs with hs | hs | hs; (have u0 := own78 _ hs; have u1 := lt56 _ hs; omega); (have u0 : _ = b32 := hs; omega); (have u0 := owA54 _ hs; have u1 := ltA54 _ hs; omega))
   replace hb44_49 := hb44_49.keep hk80 (fun hs => by rcases hs with hs | hs | hs; (have u0 := own78 _ hs; have u1 := lt56 _ hs; omega); (have u0 : _ = b32 := hs; omega); (have u0 := owA54 _ hs; have u1 := ltA54 _ hs; omega))
   replace hat72 := hat72.keep hk80 (fun hs => by rcases hs with hs | hs | hs; (have u0 := own78 _ hs; have u1 := lt56 _ hs; omega); (have u0 : _ = b32 := hs; omega); (have u0 := owA54 _ hs; have u1 := ltA54 _ hs; omega))
   replace hK0 := Keep.fresh hK0 hk80 (fun i hi hs => by rcases hs with hs | hs | hs; (rcases rel58 i hs with h | h; exact .inr <| .inr <| h; (exfalso; omega)); (exfalso; have hs : i = b32 := hs; omega); (exfalso; have g0 := owA54 i hs; have g1 := ltA54 i hs; omega))
   replace ho14 := ho14.keep hk80 (fun q hq hs => by rcases hs with hs | hs | hs; exact (fun q h1 h2 => dis60 q h2 h1) q hq hs; (have g0 := own22 q hq; have g1 := lt21 q hq; have u0 : q = b32 := hs; omega); exact (fun q h1 h2 => dis62 q h2 h1) q hq hs)
   replace ho17 := ho17.keep hk80 (fun q hq hs => by rcases hs with hs | hs | hs; exact (fun q h1 h2 => dis61 q h2 h1) q hq hs; (have g0 := own76 q hq; have g1 := lt25 q hq; have u0 : q = b32 := hs; omega); exact (fun q h1 h2 => dis63 q h2 h1) q hq hs)
   have hb32lt := hbo81.lt
   replace hbo81 : Blk w79 b32 [.slice A81 (([((Evt.mk 1 ref 6))] ++ [Evt.mk 6 ((getA rs ref).by_) (tkN xs ((getA rs ref).by_) 10)]) ++ [Evt.mk 6 ((getA rs ref).backer) (tkN (slX xs ((getA rs ref).by_) 10) ((getA rs ref).backer) ((trkA ts (getA rs ref).track).deposit))]).length cap81] 27 := by rw [List.length_append]; exact hbo81
   have own84 : ∀ q, G81 q → q ≠ r ∧ q ≠ r ∧ q ≠ b1 ∧ q ≠ b44 ∧ q ≠ b32 := fun q hq => by rcases hfr81 q hq with h | h; (have h1 := own78 q h; have h2 := lt56 q h; omega); omega
   have lt83 := Led.lt ho81
   have rel85 : ∀ q, G81 q → G q ∨ w.heap.size ≤ q := fun q hq => by rcases hfr81 q hq with h | h; exact rel58 q h; exact .inr (by omega)
   have dis86 : ∀ q, G81 q → ¬ F13 q := fun q h1 h2 => by rcases hfr81 q h1 with h | h; exact dis60 q h h2; (have h4 := lt21 q h2; omega)
   have dis87 : ∀ q, G81 q → ¬ F16 q := fun q h1 h2 => by rcases hfr81 q h1 with h | h; exact dis61 q h h2; (have h4 := lt25 q h2; omega)
   have ltA81 := SlT.lt hA81
   have owA81 : ∀ q, inA A81 q → w.heap.size ≤ q ∧ q ≠ r ∧ q ≠ b1 ∧ q ≠ b44 ∧ q ≠ b32 := fun q hq => by rcases fr81 q hq with h | h; (have h8 := owA54 q h; have h9 := ltA54 q h; omega); omega
   have dis88 : ∀ q, inA A81 q → ¬ F13 q := fun q h1 h2 => by rcases fr81 q h1 with h | h; exact (fun q h1 h2 => dis62 q h2 h1) q h2 h; (have h4 := lt21 q h2; omega)
   have dis89 : ∀ q, inA A81 q → ¬ F16 q := fun q h1 h2 => by rcases fr81 q h1 with h | h; exact (fun q h1 h2 => dis63 q h2 h1) q h2 h; (have h4 := lt25 q h2; omega)
   have dis90 := hdA81
   refine Oer ?_
   refine On 1 [0, 3, 13, 14, 68] ?_
   refine Ot 4 (.tmp 68) (.const (Value.bool false)) 37 (.bool false) hb44_49 ?_
   intro w91 hb44_94 hk92 hz93
   replace hb44_94 : Blk w91 b44 (Rfm.cells { (endY s (getA rs ref) ref 6 now) with put := false }) 44 := (Blk.eqL (by kernel_rfl) hb44_94)
   have hsz95 := Keep.size hk92
   replace hr := hr.k1 hk92
   replace hb1 := hb1.k1 hk92
   replace hbo81 := hbo81.k1 hk92
   replace hat72 := hat72.keep hk92 (by show ¬ (_ = _); omega)
   replace hA81 := hA81.keep hk92 (fun q hq hs => by have hs : q = b44 := hs; have g0 := owA81 q hq; have g1 := ltA81 q hq; omega)
   replace hK0 := Keep.fr hK0 hk92
   replace ho14 := ho14.keep hk92 (fun q hq hs => by have hs : q = b44 := hs; have g0 := own22 q hq; have g1 := lt21 q hq; omega)
   replace ho17 := ho17.keep hk92 (fun q hq hs => by have hs : q = b44 := hs; have g0 := own76 q hq; have g1 := lt25 q hq; omega)
   replace ho81 := ho81.keep hk92 (fun q hq hs => by have hs : q = b44 := hs; have g0 := own84 q hq; have g1 := lt83 q hq; omega)
   refine Os 3 [(0, pt r), (3, nt ref), (13, pt b32), (14, pt b44), (69, po_ b44 38)] ?_
   refine Ot 3 (.tmp 69) (.const (Value.int IntKind.i64 (-1))) 38 (nt (-1)) hb44_94 ?_
   intro w96 hb44_99 hk97 hz98
   replace hb44_99 : Blk w96 b44 (Rfm.cells { (endY s (getA rs ref) ref 6 now) with put := false, backer := -1 }) 44 := (Blk.eqL (by kernel_rfl) hb44_99)
   have hsz100 := Keep.size hk97
   replace hr := hr.k1 hk97
   replace hb1 := hb1.k1 hk97
   replace hbo81 := hbo81.k1 hk97
   replace hat72 := hat72.keep hk97 (by show ¬ (_ = _); omega)
   replace hA81 := hA81.keep hk97 (fun q hq hs => by have hs : q = b44 := hs; have g0 := owA81 q hq; have g1 := ltA81 q hq; omega)
   replace hK0 := Keep.fr hK0 hk97
   replace ho14 := ho14.keep hk97 (fun q hq hs => by have hs : q = b44 := hs; have g0 := own22 q hq; have g1 := lt21 q hq; omega)
   replace ho17 := ho17.keep hk97 (fun q hq hs => by have hs : q = b44 := hs; have g0 := own76 q hq; have g1 := lt25 q hq; omega)
   replace ho81 := ho81.keep hk97 (fun q hq hs => by have hs : q = b44 := hs; have g0 := own84 q hq; have g1 := lt83 q hq; omega)
   refine Oe ?_
   refine V_seq ?_
   refine V_draws (acts [6]) none_ [[0, 1, 2, 3, 4, 5, 6]] (by kernel_rfl) (by repeat first | exact (by first | exact sure_body (by rintro _ _ ⟨_, _, h, _⟩; exact ⟨_, h⟩) | exact sure_body (by rintro _ _ ⟨_, _, h, _⟩; exact ⟨_, h⟩)) | refine sure_then ?_ | refine sure_block ?_ | refine sure_join ?_) (by kernel_rfl) ?_
   intro w102 hk101 he103 L hL104
   have hsz105 := Keep.size hk101
   replace hr := hr.k0 hk101
   replace hb44_99 := hb44_99.k0 hk101
   replace hbo81 := hbo81.k0 hk101
   replace hat72 := hat72.keep hk101 id
   replace hA81 := hA81.keep0 hk101
   replace hK0 := hK0.tn hk101
   replace ho14 := ho14.keep hk101 nk
   replace ho17 := ho17.keep hk101 nk
   replace ho81 := ho81.keep hk101 nk
   have qhr := hr
   have qhb44_99 := hb44_99
   have qhbo81 := hbo81
   have qhat72 := hat72
   have K106 : Keep none_ w102 w102 := Keep.refl _ _
   obtain rfl := List.mem_singleton.1 hL104
   refine Gn [3, 4, 5, 6] [3, 13, 14, 72] ?_
   refine Gc0 88 (.tmp 72) 1 (pt g) (some 73) qhr rfl ?_
   refine Gn [5, 6] [13, 14, 73, 74] ?_
   refine Ga 44 (.tmp 14) 0 (Rfm.cells { (endY s (getA rs ref) ref 6 now) with put := false, backer := -1 }) (some 75) 45 qhb44_99 id (take_all (Rfm.len _)) (Rfm.len _) ?_
   refine GI_final 6 (by kernel_rfl) (by kernel_rfl) ?_
   refine Ok (kL 54 #[(.tmp 73), (.const (nt 0)), (.tmp 74), (.tmp 75)] #[88, 3, 3, 44]) 54 #[pt g, nt 0, nt ref, .agg (Rfm.cells { (endY s (getA rs ref) ref 6 now) with put := false, backer := -1 }).toArray] (some 76) (rset_spec F13 r g ts (endR s rs ref 6 now) ref ({ (endY s (getA rs ref) ref 6 now) with put := false, backer := -1 }) _ ho14 (by rw [hge3]; exact href) htr) ?_
   rintro _ w111 ⟨rfl, ⟨H113, hR114, hfr115⟩, hk112⟩
   refine ⟨_, rfl, ?_⟩
   have hsz116 := Keep.size hk112
   replace hr := hr.keep hk112 (fun hs => by have h1 := hgo _ hs; have h2 := hgl _ hs; omega)
   replace hb44_99 := hb44_99.keep hk112 (fun hs => by have h1 := hgo _ hs; have h2 := hgl _ hs; omega)
   replace hbo81 := hbo81.keep hk112 (fun hs => by have h1 := hgo _ hs; have h2 := hgl _ hs; omega)
   replace hat72 := hat72.keep hk112 (fun hs => by have h1 := hgo _ hs; have h2 := hgl _ hs; omega)
   replace hA81 := hA81.keep hk112 (fun q hq hs => (fun q h1 h2 => (fun q h1 h2 => dis88 q h2 h1) q (by rw [show q = g from h1]; exact (Rfr.atg ho14)) h2) q hs hq)
   replace hK0 := Keep.fresh hK0 hk112 (by intro i hi hs; first | exact hs | (exfalso; have h1 := hgo i hs; have h2 := hgl i hs; omega) | (have h1 := hgo i hs; have h2 := hgl i hs; show _ ∨ _; omega))
   replace ho17 := ho17.keep hk112 (fun q hq hs => (fun q h1 h2 => hdis19 q (by rw [show q = g from h1]; exact (Rfr.atg ho14)) h2) q hs hq)
   replace ho81 := ho81.keep hk112 (fun q hq hs => (fun q h1 h2 => (fun q h1 h2 => dis86 q h2 h1) q (by rw [show q = g from h1]; exact (Rfr.atg ho14)) h2) q hs hq)
   have own118 : ∀ q, H113 q → 0 ≤ q ∧ q ≠ b44 ∧ q ≠ b32 := fun q hq => by rcases hfr115 q hq with h | h; (have h1 := own22 q h; have h2 := lt21 q h; omega); omega
   have lt117 := Rfr.lt hR114
   have rel119 : ∀ q, H113 q → H q ∨ w.heap.size ≤ q := fun q hq => by rcases hfr115 q hq with h | h; exact rel23 q h; exact .inr (by omega)
   have dis120 : ∀ q, H113 q → ¬ inA A81 q := fun q h1 h2 => by rcases hfr115 q h1 with h | h; exact (fun q h1 h2 => dis88 q h2 h1) q h h2; (have h4 := ltA81 q h2; omega)
   have dis121 : ∀ q, H113 q → ¬ F16 q := fun q h1 h2 => by rcases hfr115 q h1 with h | h; exact hdis19 q h h2; (have h4 := lt25 q h2; omega)
   have dis122 : ∀ q, H113 q → ¬ G81 q := fun q h1 h2 => by rcases hfr115 q h1 with h | h; exact (fun q h1 h2 => dis86 q h2 h1) q h h2; (have h4 := lt83 q h2; omega)
   refine Oer ?_
   refine Oc 27 (.tmp 13) 0 (.slice A81 ((([((Evt.mk 1 ref 6))] ++ [Evt.mk 6 ((getA rs ref).by_) (tkN xs ((getA rs ref).by_) 10)]) ++ [Evt.mk 6 ((getA rs ref).backer) (tkN (slX xs ((getA rs ref).by_) 10) ((getA rs ref).backer) ((trkA ts (getA rs ref).track).deposit))]).length) cap81) (some 77) hbo81 rfl ?_
   refine Ose [(10, .slice A81 ((([((Evt.mk 1 ref 6))] ++ [Evt.mk 6 ((getA rs ref).by_) (tkN xs ((getA rs ref).by_) 10)]) ++ [Evt.mk 6 ((getA rs ref).backer) (tkN (slX xs ((getA rs ref).by_) 10) ((getA rs ref).backer) ((trkA ts (getA rs ref).track).deposit))]).length) cap81), (11, nt 0)] ?_
   refine V_ret ?_
   obtain ⟨h1123, h2123, h3123, h4123⟩ := kil_go (xs := xs) (s := s) (ts := ts) (now := now) hong
   have hp123 : (getA rs ref).put = true := hc51
   have hb123 : (getA rs ref).backer ≠ -1 := hc65
   have h5123 : kilX xs ts rs ref = (slX (slX xs ((getA rs ref).by_) 10) ((getA rs ref).backer) ((trkA ts (getA rs ref).track).deposit)) := by rw [h1123]; unfold kilX2 kilX1; rw [hp123, if_pos hb123]; rfl
   have h6123 : kilR s rs ref now = ((endR s rs ref 6 now).set ref.toNat ({ (endY s (getA rs ref) ref 6 now) with put := false, backer := -1 })) := by rw [h3123]; unfold endR; rw [List.set_set]
   have h7123 : kilL xs ts rs ref = (([((Evt.mk 1 ref 6))] ++ [Evt.mk 6 ((getA rs ref).by_) (tkN xs ((getA rs ref).by_) 10)]) ++ [Evt.mk 6 ((getA rs ref).backer) (tkN (slX xs ((getA rs ref).by_) 10) ((getA rs ref).backer) ((trkA ts (getA rs ref).track).deposit))]) := by rw [h4123]; unfold kilL2 kilL1 kilX1; rw [hp123, if_pos hb123]; rfl
   exact X_return (.tuple #[.slice A81 ((([((Evt.mk 1 ref 6))] ++ [Evt.mk 6 ((getA rs ref).by_) (tkN xs ((getA rs ref).by_) 10)]) ++ [Evt.mk 6 ((getA rs ref).backer) (tkN (slX xs ((getA rs ref).by_) 10) ((getA rs ref).backer) ((trkA ts (getA rs ref).track).deposit))]).length) cap81, nt 0]) rfl ⟨A81, cap81, by rw [h7123, hong], by rw [h7123]; exact hA81, (fun q h => (owA81 q h).1), ⟨H113, F16, G81, (by rw [h6123]; exact hR114), (by rw [h2123]; exact ho17), (by rw [h5123]; exact ho81), rel119, rel27, rel85, dis121, dis122, (fun q h1 h2 => dis87 q h2 h1), ((fun q h1 h2 => dis120 q h2 h1)), (dis89), (dis90)⟩, hK0⟩
  refine V_skip ?_
  refine X_then ?_
  refine Vr ?_
  refine On 1 [0, 3, 13, 14, 68] ?_
  refine Ot 4 (.tmp 68) (.const (Value.bool false)) 37 (.bool false) hb44_49 ?_
  intro w124 hb44_127 hk125 hz126
  replace hb44_127 : Blk w124 b44 (Rfm.cells { (endY s (getA rs ref) ref 6 now) with put := false }) 44 := (Blk.eqL (by kernel_rfl) hb44_127)
  have hsz128 := Keep.size hk125
  replace hr := hr.k1 hk125
  replace hb1 := hb1.k1 hk125
  replace hbo54 := hbo54.k1 hk125
  replace hA := hA.keep hk125 (fun q hq hs => by have hs : q = b44 := hs; have g0 := hAr q hq; have g1 := hAlt q hq; omega)
  replace hA54 := hA54.keep hk125 (fun q hq hs => by have hs : q = b44 := hs; have g0 := owA54 q hq; have g1 := ltA54 q hq; omega)
  replace hK0 := Keep.fr hK0 hk125
  replace ho14 := ho14.keep hk125 (fun q hq hs => by have hs : q = b44 := hs; have g0 := own22 q hq; have g1 := lt21 q hq; omega)
  replace ho17 := ho17.keep hk125 (fun q hq hs => by have hs : q = b44 := hs; have g0 := own26 q hq; have g1 := lt25 q hq; omega)
  replace ho54 := ho54.keep hk125 (fun q hq hs => by have hs : q = b44 := hs; have g0 := own57 q hq; have g1 := lt56 q hq; omega)
  refine Os 3 [(0, pt r), (3, nt ref), (13, pt b32), (14, pt b44), (69, po_ b44 38)] ?_
  refine Ot 3 (.tmp 69) (.const (Value.int IntKind.i64 (-1))) 38 (nt (-1)) hb44_127 ?_
  intro w129 hb44_132 hk130 hz131
  replace hb44_132 : Blk w129 b44 (Rfm.cells { (endY s (getA rs ref) ref 6 now) with put := false, backer := -1 }) 44 := (Blk.eqL (by kernel_rfl) hb44_132)
  have hsz133 := Keep.size hk130
  replace hr := hr.k1 hk130
  replace hb1 := hb1.k1 hk130
  replace hbo54 := hbo54.k1 hk130
  replace hA := hA.keep hk130 (fun q hq hs => by have hs : q = b44 := hs; have g0 := hAr q hq; have g1 := hAlt q hq; omega)
  replace hA54 := hA54.keep hk130 (fun q hq hs => by have hs : q = b44 := hs; have g0 := owA54 q hq; have g1 := ltA54 q hq; omega)
  replace hK0 := Keep.fr hK0 hk130
  replace ho14 := ho14.keep hk130 (fun q hq hs => by have hs : q = b44 := hs; have g0 := own22 q hq; have g1 := lt21 q hq; omega)
  replace ho17 := ho17.keep hk130 (fun q hq hs => by have hs : q = b44 := hs; have g0 := own26 q hq; have g1 := lt25 q hq; omega)
  replace ho54 := ho54.keep hk130 (fun q hq hs => by have hs : q = b44 := hs; have g0 := own57 q hq; have g1 := lt56 q hq; omega)
  refine Oe ?_
  refine V_seq ?_
  refine V_draws (acts [6]) none_ [[0, 1, 2, 3, 4, 5, 6]] (by kernel_rfl) (by repeat first | exact (by first | exact sure_body (by rintro _ _ ⟨_, _, h, _⟩; exact ⟨_, h⟩) | exact sure_body (by rintro _ _ ⟨_, _, h, _⟩; exact ⟨_, h⟩)) | refine sure_then ?_ | refine sure_block ?_ | refine sure_join ?_) (by kernel_rfl) ?_
  intro w135 hk134 he136 L hL137
  have hsz138 := Keep.size hk134
  replace hr := hr.k0 hk134
  replace hb44_132 := hb44_132.k0 hk134
  replace hbo54 := hbo54.k0 hk134
  replace hA := hA.keep0 hk134
  replace hA54 := hA54.keep0 hk134
  replace hK0 := hK0.tn hk134
  replace ho14 := ho14.keep hk134 nk
  replace ho17 := ho17.keep hk134 nk
  replace ho54 := ho54.keep hk134 nk
  have qhr := hr
  have qhb44_132 := hb44_132
  have qhbo54 := hbo54
  have K139 : Keep none_ w135 w135 := Keep.refl _ _
  obtain rfl := List.mem_singleton.1 hL137
  refine Gn [3, 4, 5, 6] [3, 13, 14, 72] ?_
  refine Gc0 88 (.tmp 72) 1 (pt g) (some 73) qhr rfl ?_
  refine Gn [5, 6] [13, 14, 73, 74] ?_
  refine Ga 44 (.tmp 14) 0 (Rfm.cells { (endY s (getA rs ref) ref 6 now) with put := false, backer := -1 }) (some 75) 45 qhb44_132 id (take_all (Rfm.len _)) (Rfm.len _) ?_
  refine GI_final 6 (by kernel_rfl) (by kernel_rfl) ?_
  refine Ok (kL 54 #[(.tmp 73), (.const (nt 0)), (.tmp 74), (.tmp 75)] #[88, 3, 3, 44]) 54 #[pt g, nt 0, nt ref, .agg (Rfm.cells { (endY s (getA rs ref) ref 6 now) with put := false, backer := -1 }).toArray] (some 76) (rset_spec F13 r g ts (endR s rs ref 6 now) ref ({ (endY s (getA rs ref) ref 6 now) with put := false, backer := -1 }) _ ho14 (by rw [hge3]; exact href) htr) ?_
  rintro _ w144 ⟨rfl, ⟨H146, hR147, hfr148⟩, hk145⟩
  refine ⟨_, rfl, ?_⟩
  have hsz149 := Keep.size hk145
  replace hr := hr.keep hk145 (fun hs => by have h1 := hgo _ hs; have h2 := hgl _ hs; omega)
  replace hb44_132 := hb44_132.keep hk145 (fun hs => by have h1 := hgo _ hs; have h2 := hgl _ hs; omega)
  replace hbo54 := hbo54.keep hk145 (fun hs => by have h1 := hgo _ hs; have h2 := hgl _ hs; omega)
  replace hA := hA.keep hk145 (fun q hq hs => (fun q h1 h2 => (hAo q h2).2.2 h1) q hs hq)
  replace hA54 := hA54.keep hk145 (fun q hq hs => (fun q h1 h2 => (fun q h1 h2 => dis62 q h2 h1) q (by rw [show q = g from h1]; exact (Rfr.atg ho14)) h2) q hs hq)
  replace hK0 := Keep.fresh hK0 hk145 (by intro i hi hs; first | exact hs | (exfalso; have h1 := hgo i hs; have h2 := hgl i hs; omega) | (have h1 := hgo i hs; have h2 := hgl i hs; show _ ∨ _; omega))
  replace ho17 := ho17.keep hk145 (fun q hq hs => (fun q h1 h2 => hdis19 q (by rw [show q = g from h1]; exact (Rfr.atg ho14)) h2) q hs hq)
  replace ho54 := ho54.keep hk145 (fun q hq hs => (fun q h1 h2 => (fun q h1 h2 => dis60 q h2 h1) q (by rw [show q = g from h1]; exact (Rfr.atg ho14)) h2) q hs hq)
  have own151 : ∀ q, H146 q → 0 ≤ q ∧ q ≠ b44 ∧ q ≠ b32 := fun q hq => by rcases hfr148 q hq with h | h; (have h1 := own22 q h; have h2 := lt21 q h; omega); omega
  have lt150 := Rfr.lt hR147
  have rel152 : ∀ q, H146 q → H q ∨ w.heap.size ≤ q := fun q hq => by rcases hfr148 q hq with h | h; exact rel23 q h; exact .inr (by omega)
  have dis153 : ∀ q, H146 q → ¬ inA A54 q := fun q h1 h2 => by rcases hfr148 q h1 with h | h; exact (fun q h1 h2 => dis62 q h2 h1) q h h2; (have h4 := ltA54 q h2; omega)
  have dis154 : ∀ q, H146 q → ¬ F16 q := fun q h1 h2 => by rcases hfr148 q h1 with h | h; exact hdis19 q h h2; (have h4 := lt25 q h2; omega)
  have dis155 : ∀ q, H146 q → ¬ G54 q := fun q h1 h2 => by rcases hfr148 q h1 with h | h; exact (fun q h1 h2 => dis60 q h2 h1) q h h2; (have h4 := lt56 q h2; omega)
  refine Oer ?_
  refine Oc 27 (.tmp 13) 0 (.slice A54 (([((Evt.mk 1 ref 6))] ++ [Evt.mk 6 ((getA rs ref).by_) (tkN xs ((getA rs ref).by_) 10)]).length) cap54) (some 77) hbo54 rfl ?_
  refine Ose [(10, .slice A54 (([((Evt.mk 1 ref 6))] ++ [Evt.mk 6 ((getA rs ref).by_) (tkN xs ((getA rs ref).by_) 10)]).length) cap54), (11, nt 0)] ?_
  refine V_ret ?_
  obtain ⟨h1156, h2156, h3156, h4156⟩ := kil_go (xs := xs) (s := s) (ts := ts) (now := now) hong
  have hp156 : (getA rs ref).put = true := hc51
  have hb156 : ¬ (getA rs ref).backer ≠ -1 := fun h => h hc65
  have h5156 : kilX xs ts rs ref = (slX xs ((getA rs ref).by_) 10) := by rw [h1156]; unfold kilX2 kilX1; rw [hp156, if_neg hb156]; rfl
  have h6156 : kilR s rs ref now = ((endR s rs ref 6 now).set ref.toNat ({ (endY s (getA rs ref) ref 6 now) with put := false, backer := -1 })) := by rw [h3156]; unfold endR; rw [List.set_set]
  have h7156 : kilL xs ts rs ref = ([((Evt.mk 1 ref 6))] ++ [Evt.mk 6 ((getA rs ref).by_) (tkN xs ((getA rs ref).by_) 10)]) := by rw [h4156]; unfold kilL2 kilL1 kilX1; rw [hp156, if_neg hb156]; rfl
  exact X_return (.tuple #[.slice A54 (([((Evt.mk 1 ref 6))] ++ [Evt.mk 6 ((getA rs ref).by_) (tkN xs ((getA rs ref).by_) 10)]).length) cap54, nt 0]) rfl ⟨A54, cap54, by rw [h7156, hong], by rw [h7156]; exact hA54, (fun q h => (owA54 q h).1), ⟨H146, F16, G54, (by rw [h6156]; exact hR147), (by rw [h2156]; exact ho17), (by rw [h5156]; exact ho54), rel152, rel27, rel58, dis154, dis155, (fun q h1 h2 => dis61 q h2 h1), ((fun q h1 h2 => dis153 q h2 h1)), (dis63), (dis64)⟩, hK0⟩
 refine V_skip ?_
 refine X_then ?_
 refine V_seq ?_
 refine Vr ?_
 refine On 1 [0, 3, 13, 14, 16, 52] ?_
 refine Oc 3 (.tmp 52) 38 (nt ((getA rs ref).backer)) (some 53) hb44_49 rfl ?_
 refine Ose [(0, pt r), (3, nt ref), (13, pt b32), (14, pt b44), (16, .func (.func 89) #[] #[pt b32, pt b1]), (54, .bool (!(decide ((getA rs ref).backer = -1))))] ?_
 refine V_not ((getA rs ref).backer = -1) (by kernel_rfl) (fun hc157 => ?_) (fun hc157 => ?_)
 ·
  refine V_draws (acts [12]) none_ [[0, 1, 2, 3, 4, 5, 6, 7, 8, 9, 10, 11, 12]] (by kernel_rfl) (by repeat first | exact (by first | exact sure_body (by rintro _ _ ⟨_, _, h, _⟩; exact ⟨_, h⟩) | exact sure_body (by rintro _ _ ⟨_, _, h, _⟩; exact ⟨_, h⟩)) | refine sure_then ?_ | refine sure_block ?_ | refine sure_join ?_) (by kernel_rfl) ?_
  intro w159 hk158 he160 L hL161
  have hsz162 := Keep.size hk158
  replace hr := hr.k0 hk158
  replace hb1 := hb1.k0 hk158
  replace hb30 := hb30.k0 hk158
  replace hb32_37 := hb32_37.k0 hk158
  replace hb44_49 := hb44_49.k0 hk158
  replace hA := hA.keep0 hk158
  replace hl := hl.keep hk158 nk
  replace hK0 := hK0.tn hk158
  replace ho14 := ho14.keep hk158 nk
  replace ho17 := ho17.keep hk158 nk
  have qhr := hr
  have qhb1 := hb1
  have qhb30 := hb30
  have qhb32_37 := hb32_37
  have qhb44_49 := hb44_49
  have K163 : Keep none_ w159 w159 := Keep.refl _ _
  obtain rfl := List.mem_singleton.1 hL161
  refine Gn [2, 3, 4, 5, 6, 7, 8, 9, 10, 11, 12] [0, 3, 13, 14, 55, 56] ?_
  refine Gc0 3 (.tmp 56) 38 (nt ((getA rs ref).backer)) (some 57) qhb44_49 rfl ?_
  refine Gn [6, 7, 8, 9, 10, 11, 12] [0, 3, 13, 14, 55, 57, 60] ?_
  refine Gc0 67 (.tmp 60) 0 (.slice A ts.length cap) (some 61) qhr rfl ?_
  refine Gn [8, 9, 10, 11, 12] [0, 3, 13, 14, 55, 57, 61, 62] ?_
  refine Gc0 3 (.tmp 62) 1 (nt ((getA rs ref).track)) (some 63) qhb44_49 rfl ?_
  obtain ⟨b164, o164, L164, T164, rfl, hat164⟩ := SlT.opn hA
  have hb164lt := hat164.blk.lt
  have hob165 := hAr b164 ⟨_, rfl, rfl⟩
  have hob166 := hAlt b164 ⟨_, rfl, rfl⟩
  have hne167 : ∀ q, G q → q ≠ b164 := fun q hq hs => (fun q h1 h2 => hHG q (hAo q h2).1 h1) q hq ⟨_, rfl, hs⟩
  have own168 := fun q hq => And.intro (hlr q hq) (hne167 q hq)
  have hne169 : ∀ q, F16 q → q ≠ b164 := fun q hq hs => dis28 q hq ⟨_, rfl, hs⟩
  have own170 := fun q hq => And.intro (own26 q hq) (hne169 q hq)
  refine Gp_ [(0, pt r), (3, nt ref), (13, pt b32), (14, pt b44), (55, .func (.func 89) #[] #[pt b32, pt b1]), (57, nt ((getA rs ref).backer)), (61, sl_ b164 o164 ts.length cap), (63, nt ((getA rs ref).track))] ?_
  refine GI_eq [(0, pt r), (3, nt ref), (13, pt b32), (14, pt b44), (55, .func (.func 89) #[] #[pt b32, pt b1]), (57, nt ((getA rs ref).backer)), (61, sl_ b164 o164 ts.length cap), (63, nt (jt : Int))] (by rw [hjt]) ?_
  refine GI_pure (some 64) (.indexAddr 67 (.tmp 61) (.tmp 63)) (by kernel_rfl) (by kernel_rfl) (pure_idxN (b := b164) (o := o164) (len := ts.length) (cap := cap) (kd := .i64) (j := jt) (E := 80) (sz := 18) (by_ := 144) (by kernel_rfl) (by kernel_rfl) (by kernel_rfl) (by omega)) ?_
  refine Gn [11, 12] [0, 3, 13, 14, 55, 57, 65] ?_
  refine Gc0 3 (.tmp 65) (o164 + jt * 18 + 1) (nt ((trkA ts (getA rs ref).track).deposit)) (some 66) hat164.blk (At.cell hat164 (es_at htk) rfl) ?_
  refine GI_final 12 (by kernel_rfl) (by kernel_rfl) ?_
  refine Ok { callee := (Callee.value (Operand.tmp 55)), args := #[(Operand.tmp 57), (Operand.tmp 66)], argTypes := #[3, 3] } 89 #[nt ((getA rs ref).backer), nt ((trkA ts (getA rs ref).track).deposit), pt b32, pt b1] (some 67) (kill1_spec (some ⟨b30, 0, none⟩) 1 [((Evt.mk 1 ref 6))] b32 b1 G l xs cs ((getA rs ref).backer) ((trkA ts (getA rs ref).track).deposit) _ hb32_37 hb1 (slt_blk hb30 Evt.len rfl) hl (fun q h => by have h1 := inA_some h; omega) (fun q h => by have h1 := own168 q h; have h2 := hGlt q h; omega) (fun q h1 h2 => by have h3 := inA_some h1; have h4 := hGlt q h2; omega) (by simp) (by omega)) ?_
  rintro _ w171 ⟨A173, cap173, rfl, hbo173, hA173, fr173, ⟨G173, ho173, hfr173, hdA173⟩, hk172⟩
  refine ⟨_, rfl, ?_⟩
  have hsz174 := Keep.size hk172
  replace hr := hr.keep hk172 (fun hs => by rcases hs with hs | hs | hs; (have u0 := own168 _ hs; have u1 := hGlt _ hs; omega); (have u0 : _ = b32 := hs; omega); (have u0 := inA_some hs; omega))
  replace hb1 := hb1.keep hk172 (fun hs => by rcases hs with hs | hs | hs; (have u0 := own168 _ hs; have u1 := hGlt _ hs; omega); (have u0 : _ = b32 := hs; omega); (have u0 := inA_some hs; omega))
  replace hb44_49 := hb44_49.keep hk172 (fun hs => by rcases hs with hs | hs | hs; (have u0 := own168 _ hs; have u1 := hGlt _ hs; omega); (have u0 : _ = b32 := hs; omega); (have u0 := inA_some hs; omega))
  replace hat164 := hat164.keep hk172 (fun hs => by rcases hs with hs | hs | hs; (have u0 := own168 _ hs; have u1 := hGlt _ hs; omega); (have u0 : _ = b32 := hs; omega); (have u0 := inA_some hs; omega))
  replace hK0 := Keep.fresh hK0 hk172 (fun i hi hs => by rcases hs with hs | hs | hs; (rcases hGr i hs with h | h; exact .inr <| .inr <| h; (exfalso; omega)); (exfalso; have hs : i = b32 := hs; omega); (exfalso; have hs := inA_some hs; omega))
  replace ho14 := ho14.keep hk172 (fun q hq hs => by rcases hs with hs | hs | hs; exact dis24 q hq hs; (have g0 := own22 q hq; have g1 := lt21 q hq; have u0 : q = b32 := hs; omega); (have g0 := own22 q hq; have g1 := lt21 q hq; have u0 := inA_some hs; omega))
  replace ho17 := ho17.keep hk172 (fun q hq hs => by rcases hs with hs | hs | hs; exact dis29 q hq hs; (have g0 := own170 q hq; have g1 := lt25 q hq; have u0 : q = b32 := hs; omega); (have g0 := own170 q hq; have g1 := lt25 q hq; have u0 := inA_some hs; omega))
  have hb32lt := hbo173.lt
  replace hbo173 : Blk w171 b32 [.slice A173 ([((Evt.mk 1 ref 6))] ++ [Evt.mk 6 ((getA rs ref).backer) (tkN xs ((getA rs ref).backer) ((trkA ts (getA rs ref).track).deposit))]).length cap173] 27 := by rw [List.length_append]; exact hbo173
  have own176 : ∀ q, G173 q → q ≠ r ∧ q ≠ r ∧ q ≠ b1 ∧ q ≠ b44 ∧ q ≠ b32 := fun q hq => by rcases hfr173 q hq with h | h; (have h1 := own168 q h; have h2 := hGlt q h; omega); omega
  have lt175 := Led.lt ho173
  have rel177 : ∀ q, G173 q → G q ∨ w.heap.size ≤ q := fun q hq => by rcases hfr173 q hq with h | h; exact hGr q h; exact .inr (by omega)
  have dis178 : ∀ q, G173 q → ¬ F13 q := fun q h1 h2 => by rcases hfr173 q h1 with h | h; exact (fun q h1 h2 => dis24 q h2 h1) q h h2; (have h4 := lt21 q h2; omega)
  have dis179 : ∀ q, G173 q → ¬ F16 q := fun q h1 h2 => by rcases hfr173 q h1 with h | h; exact (fun q h1 h2 => dis29 q h2 h1) q h h2; (have h4 := lt25 q h2; omega)
  have ltA173 := SlT.lt hA173
  have owA173 : ∀ q, inA A173 q → w.heap.size ≤ q ∧ q ≠ r ∧ q ≠ b1 ∧ q ≠ b44 ∧ q ≠ b32 := fun q hq => by rcases fr173 q hq with h | h; (have h8 := inA_some h; omega); omega
  have dis180 : ∀ q, inA A173 q → ¬ F13 q := fun q h1 h2 => by rcases fr173 q h1 with h | h; (have h3 := inA_some h; have h4 := lt21 q h2; have h5 := own22 q h2; omega); (have h4 := lt21 q h2; omega)
  have dis181 : ∀ q, inA A173 q → ¬ F16 q := fun q h1 h2 => by rcases fr173 q h1 with h | h; (have h3 := inA_some h; have h4 := lt25 q h2; have h5 := own170 q h2; omega); (have h4 := lt25 q h2; omega)
  have dis182 := hdA173
  refine Oer ?_
  refine On 1 [0, 3, 13, 14, 68] ?_
  refine Ot 4 (.tmp 68) (.const (Value.bool false)) 37 (.bool false) hb44_49 ?_
  intro w183 hb44_186 hk184 hz185
  replace hb44_186 : Blk w183 b44 (Rfm.cells { (endY s (getA rs ref) ref 6 now) with put := false }) 44 := (Blk.eqL (by kernel_rfl) hb44_186)
  have hsz187 := Keep.size hk184
  replace hr := hr.k1 hk184
  replace hb1 := hb1.k1 hk184
  replace hbo173 := hbo173.k1 hk184
  replace hat164 := hat164.keep hk184 (by show ¬ (_ = _); omega)
  replace hA173 := hA173.keep hk184 (fun q hq hs => by have hs : q = b44 := hs; have g0 := owA173 q hq; have g1 := ltA173 q hq; omega)
  replace hK0 := Keep.fr hK0 hk184
  replace ho14 := ho14.keep hk184 (fun q hq hs => by have hs : q = b44 := hs; have g0 := own22 q hq; have g1 := lt21 q hq; omega)
  replace ho17 := ho17.keep hk184 (fun q hq hs => by have hs : q = b44 := hs; have g0 := own170 q hq; have g1 := lt25 q hq; omega)
  replace ho173 := ho173.keep hk184 (fun q hq hs => by have hs : q = b44 := hs; have g0 := own176 q hq; have g1 := lt175 q hq; omega)
  refine Os 3 [(0, pt r), (3, nt ref), (13, pt b32), (14, pt b44), (69, po_ b44 38)] ?_
  refine Ot 3 (.tmp 69) (.const (Value.int IntKind.i64 (-1))) 38 (nt (-1)) hb44_186 ?_
  intro w188 hb44_191 hk189 hz190
  replace hb44_191 : Blk w188 b44 (Rfm.cells { (endY s (getA rs ref) ref 6 now) with put := false, backer := -1 }) 44 := (Blk.eqL (by kernel_rfl) hb44_191)
  have hsz192 := Keep.size hk189
  replace hr := hr.k1 hk189
  replace hb1 := hb1.k1 hk189
  replace hbo173 := hbo173.k1 hk189
  replace hat164 := hat164.keep hk189 (by show ¬ (_ = _); omega)
  replace hA173 := hA173.keep hk189 (fun q hq hs => by have hs : q = b44 := hs; have g0 := owA173 q hq; have g1 := ltA173 q hq; omega)
  replace hK0 := Keep.fr hK0 hk189
  replace ho14 := ho14.keep hk189 (fun q hq hs => by have hs : q = b44 := hs; have g0 := own22 q hq; have g1 := lt21 q hq; omega)
  replace ho17 := ho17.keep hk189 (fun q hq hs => by have hs : q = b44 := hs; have g0 := own170 q hq; have g1 := lt25 q hq; omega)
  replace ho173 := ho173.keep hk189 (fun q hq hs => by have hs : q = b44 := hs; have g0 := own176 q hq; have g1 := lt175 q hq; omega)
  refine Oe ?_
  refine V_seq ?_
  refine V_draws (acts [6]) none_ [[0, 1, 2, 3, 4, 5, 6]] (by kernel_rfl) (by repeat first | exact (by first | exact sure_body (by rintro _ _ ⟨_, _, h, _⟩; exact ⟨_, h⟩) | exact sure_body (by rintro _ _ ⟨_, _, h, _⟩; exact ⟨_, h⟩)) | refine sure_then ?_ | refine sure_block ?_ | refine sure_join ?_) (by kernel_rfl) ?_
  intro w194 hk193 he195 L hL196
  have hsz197 := Keep.size hk193
  replace hr := hr.k0 hk193
  replace hb44_191 := hb44_191.k0 hk193
  replace hbo173 := hbo173.k0 hk193
  replace hat164 := hat164.keep hk193 id
  replace hA173 := hA173.keep0 hk193
  replace hK0 := hK0.tn hk193
  replace ho14 := ho14.keep hk193 nk
  replace ho17 := ho17.keep hk193 nk
  replace ho173 := ho173.keep hk193 nk
  have qhr := hr
  have qhb44_191 := hb44_191
  have qhbo173 := hbo173
  have qhat164 := hat164
  have K198 : Keep none_ w194 w194 := Keep.refl _ _
  obtain rfl := List.mem_singleton.1 hL196
  refine Gn [3, 4, 5, 6] [3, 13, 14, 72] ?_
  refine Gc0 88 (.tmp 72) 1 (pt g) (some 73) qhr rfl ?_
  refine Gn [5, 6] [13, 14, 73, 74] ?_
  refine Ga 44 (.tmp 14) 0 (Rfm.cells { (endY s (getA rs ref) ref 6 now) with put := false, backer := -1 }) (some 75) 45 qhb44_191 id (take_all (Rfm.len _)) (Rfm.len _) ?_
  refine GI_final 6 (by kernel_rfl) (by kernel_rfl) ?_
  refine Ok (kL 54 #[(.tmp 73), (.const (nt 0)), (.tmp 74), (.tmp 75)] #[88, 3, 3, 44]) 54 #[pt g, nt 0, nt ref, .agg (Rfm.cells { (endY s (getA rs ref) ref 6 now) with put := false, backer := -1 }).toArray] (some 76) (rset_spec F13 r g ts (endR s rs ref 6 now) ref ({ (endY s (getA rs ref) ref 6 now) with put := false, backer := -1 }) _ ho14 (by rw [hge3]; exact href) htr) ?_
  rintro _ w203 ⟨rfl, ⟨H205, hR206, hfr207⟩, hk204⟩
  refine ⟨_, rfl, ?_⟩
  have hsz208 := Keep.size hk204
  replace hr := hr.keep hk204 (fun hs => by have h1 := hgo _ hs; have h2 := hgl _ hs; omega)
  replace hb44_191 := hb44_191.keep hk204 (fun hs => by have h1 := hgo _ hs; have h2 := hgl _ hs; omega)
  replace hbo173 := hbo173.keep hk204 (fun hs => by have h1 := hgo _ hs; have h2 := hgl _ hs; omega)
  replace hat164 := hat164.keep hk204 (fun hs => by have h1 := hgo _ hs; have h2 := hgl _ hs; omega)
  replace hA173 := hA173.keep hk204 (fun q hq hs => (fun q h1 h2 => (fun q h1 h2 => dis180 q h2 h1) q (by rw [show q = g from h1]; exact (Rfr.atg ho14)) h2) q hs hq)
  replace hK0 := Keep.fresh hK0 hk204 (by intro i hi hs; first | exact hs | (exfalso; have h1 := hgo i hs; have h2 := hgl i hs; omega) | (have h1 := hgo i hs; have h2 := hgl i hs; show _ ∨ _; omega))
  replace ho17 := ho17.keep hk204 (fun q hq hs => (fun q h1 h2 => hdis19 q (by rw [show q = g from h1]; exact (Rfr.atg ho14)) h2) q hs hq)
  replace ho173 := ho173.keep hk204 (fun q hq hs => (fun q h1 h2 => (fun q h1 h2 => dis178 q h2 h1) q (by rw [show q = g from h1]; exact (Rfr.atg ho14)) h2) q hs hq)
  have own210 : ∀ q, H205 q → 0 ≤ q ∧ q ≠ b44 ∧ q ≠ b32 := fun q hq => by rcases hfr207 q hq with h | h; (have h1 := own22 q h; have h2 := lt21 q h; omega); omega
  have lt209 := Rfr.lt hR206
  have rel211 : ∀ q, H205 q → H q ∨ w.heap.size ≤ q := fun q hq => by rcases hfr207 q hq with h | h; exact rel23 q h; exact .inr (by omega)
  have dis212 : ∀ q, H205 q → ¬ inA A173 q := fun q h1 h2 => by rcases hfr207 q h1 with h | h; exact (fun q h1 h2 => dis180 q h2 h1) q h h2; (have h4 := ltA173 q h2; omega)
  have dis213 : ∀ q, H205 q → ¬ F16 q := fun q h1 h2 => by rcases hfr207 q h1 with h | h; exact hdis19 q h h2; (have h4 := lt25 q h2; omega)
  have dis214 : ∀ q, H205 q → ¬ G173 q := fun q h1 h2 => by rcases hfr207 q h1 with h | h; exact (fun q h1 h2 => dis178 q h2 h1) q h h2; (have h4 := lt175 q h2; omega)
  refine Oer ?_
  refine Oc 27 (.tmp 13) 0 (.slice A173 (([((Evt.mk 1 ref 6))] ++ [Evt.mk 6 ((getA rs ref).backer) (tkN xs ((getA rs ref).backer) ((trkA ts (getA rs ref).track).deposit))]).length) cap173) (some 77) hbo173 rfl ?_
  refine Ose [(10, .slice A173 (([((Evt.mk 1 ref 6))] ++ [Evt.mk 6 ((getA rs ref).backer) (tkN xs ((getA rs ref).backer) ((trkA ts (getA rs ref).track).deposit))]).length) cap173), (11, nt 0)] ?_
  refine V_ret ?_
  obtain ⟨h1215, h2215, h3215, h4215⟩ := kil_go (xs := xs) (s := s) (ts := ts) (now := now) hong
  have hp215 : (getA rs ref).put = false := hc51
  have hb215 : (getA rs ref).backer ≠ -1 := hc157
  have h5215 : kilX xs ts rs ref = (slX xs ((getA rs ref).backer) ((trkA ts (getA rs ref).track).deposit)) := by rw [h1215]; unfold kilX2 kilX1; rw [hp215, if_pos hb215]; rfl
  have h6215 : kilR s rs ref now = ((endR s rs ref 6 now).set ref.toNat ({ (endY s (getA rs ref) ref 6 now) with put := false, backer := -1 })) := by rw [h3215]; unfold endR; rw [List.set_set]
  have h7215 : kilL xs ts rs ref = ([((Evt.mk 1 ref 6))] ++ [Evt.mk 6 ((getA rs ref).backer) (tkN xs ((getA rs ref).backer) ((trkA ts (getA rs ref).track).deposit))]) := by rw [h4215]; unfold kilL2 kilL1 kilX1; rw [hp215, if_pos hb215]; rfl
  exact X_return (.tuple #[.slice A173 (([((Evt.mk 1 ref 6))] ++ [Evt.mk 6 ((getA rs ref).backer) (tkN xs ((getA rs ref).backer) ((trkA ts (getA rs ref).track).deposit))]).length) cap173, nt 0]) rfl ⟨A173, cap173, by rw [h7215, hong], by rw [h7215]; exact hA173, (fun q h => (owA173 q h).1), ⟨H205, F16, G173, (by rw [h6215]; exact hR206), (by rw [h2215]; exact ho17), (by rw [h5215]; exact ho173), rel211, rel27, rel177, dis213, dis214, (fun q h1 h2 => dis179 q h2 h1), ((fun q h1 h2 => dis212 q h2 h1)), (dis181), (dis182)⟩, hK0⟩
 refine V_skip ?_
 refine X_then ?_
 refine Vr ?_
 refine On 1 [0, 3, 13, 14, 68] ?_
 refine Ot 4 (.tmp 68) (.const (Value.bool false)) 37 (.bool false) hb44_49 ?_
 intro w216 hb44_219 hk217 hz218
 replace hb44_219 : Blk w216 b44 (Rfm.cells { (endY s (getA rs ref) ref 6 now) with put := false }) 44 := (Blk.eqL (by kernel_rfl) hb44_219)
 have hsz220 := Keep.size hk217
 replace hr := hr.k1 hk217
 replace hb1 := hb1.k1 hk217
 replace hb30 := hb30.k1 hk217
 replace hb32_37 := hb32_37.k1 hk217
 replace hA := hA.keep hk217 (fun q hq hs => by have hs : q = b44 := hs; have g0 := hAr q hq; have g1 := hAlt q hq; omega)
 replace hl := hl.keep hk217 (fun q hq hs => by have hs : q = b44 := hs; have g0 := hlr q hq; have g1 := hGlt q hq; omega)
 replace hK0 := Keep.fr hK0 hk217
 replace ho14 := ho14.keep hk217 (fun q hq hs => by have hs : q = b44 := hs; have g0 := own22 q hq; have g1 := lt21 q hq; omega)
 replace ho17 := ho17.keep hk217 (fun q hq hs => by have hs : q = b44 := hs; have g0 := own26 q hq; have g1 := lt25 q hq; omega)
 refine Os 3 [(0, pt r), (3, nt ref), (13, pt b32), (14, pt b44), (69, po_ b44 38)] ?_
 refine Ot 3 (.tmp 69) (.const (Value.int IntKind.i64 (-1))) 38 (nt (-1)) hb44_219 ?_
 intro w221 hb44_224 hk222 hz223
 replace hb44_224 : Blk w221 b44 (Rfm.cells { (endY s (getA rs ref) ref 6 now) with put := false, backer := -1 }) 44 := (Blk.eqL (by kernel_rfl) hb44_224)
 have hsz225 := Keep.size hk222
 replace hr := hr.k1 hk222
 replace hb1 := hb1.k1 hk222
 replace hb30 := hb30.k1 hk222
 replace hb32_37 := hb32_37.k1 hk222
 replace hA := hA.keep hk222 (fun q hq hs => by have hs : q = b44 := hs; have g0 := hAr q hq; have g1 := hAlt q hq; omega)
 replace hl := hl.keep hk222 (fun q hq hs => by have hs : q = b44 := hs; have g0 := hlr q hq; have g1 := hGlt q hq; omega)
 replace hK0 := Keep.fr hK0 hk222
 replace ho14 := ho14.keep hk222 (fun q hq hs => by have hs : q = b44 := hs; have g0 := own22 q hq; have g1 := lt21 q hq; omega)
 replace ho17 := ho17.keep hk222 (fun q hq hs => by have hs : q = b44 := hs; have g0 := own26 q hq; have g1 := lt25 q hq; omega)
 refine Oe ?_
 refine V_seq ?_
 refine V_draws (acts [6]) none_ [[0, 1, 2, 3, 4, 5, 6]] (by kernel_rfl) (by repeat first | exact (by first | exact sure_body (by rintro _ _ ⟨_, _, h, _⟩; exact ⟨_, h⟩) | exact sure_body (by rintro _ _ ⟨_, _, h, _⟩; exact ⟨_, h⟩)) | refine sure_then ?_ | refine sure_block ?_ | refine sure_join ?_) (by kernel_rfl) ?_
 intro w227 hk226 he228 L hL229
 have hsz230 := Keep.size hk226
 replace hr := hr.k0 hk226
 replace hb30 := hb30.k0 hk226
 replace hb32_37 := hb32_37.k0 hk226
 replace hb44_224 := hb44_224.k0 hk226
 replace hA := hA.keep0 hk226
 replace hl := hl.keep hk226 nk
 replace hK0 := hK0.tn hk226
 replace ho14 := ho14.keep hk226 nk
 replace ho17 := ho17.keep hk226 nk
 have qhr := hr
 have qhb30 := hb30
 have qhb32_37 := hb32_37
 have qhb44_224 := hb44_224
 have K231 : Keep none_ w227 w227 := Keep.refl _ _
 obtain rfl := List.mem_singleton.1 hL229
 refine Gn [3, 4, 5, 6] [3, 13, 14, 72] ?_
 refine Gc0 88 (.tmp 72) 1 (pt g) (some 73) qhr rfl ?_
 refine Gn [5, 6] [13, 14, 73, 74] ?_
 refine Ga 44 (.tmp 14) 0 (Rfm.cells { (endY s (getA rs ref) ref 6 now) with put := false, backer := -1 }) (some 75) 45 qhb44_224 id (take_all (Rfm.len _)) (Rfm.len _) ?_
 refine GI_final 6 (by kernel_rfl) (by kernel_rfl) ?_
 refine Ok (kL 54 #[(.tmp 73), (.const (nt 0)), (.tmp 74), (.tmp 75)] #[88, 3, 3, 44]) 54 #[pt g, nt 0, nt ref, .agg (Rfm.cells { (endY s (getA rs ref) ref 6 now) with put := false, backer := -1 }).toArray] (some 76) (rset_spec F13 r g ts (endR s rs ref 6 now) ref ({ (endY s (getA rs ref) ref 6 now) with put := false, backer := -1 }) _ ho14 (by rw [hge3]; exact href) htr) ?_
 rintro _ w236 ⟨rfl, ⟨H238, hR239, hfr240⟩, hk237⟩
 refine ⟨_, rfl, ?_⟩
 have hsz241 := Keep.size hk237
 replace hr := hr.keep hk237 (fun hs => by have h1 := hgo _ hs; have h2 := hgl _ hs; omega)
 replace hb30 := hb30.keep hk237 (fun hs => by have h1 := hgo _ hs; have h2 := hgl _ hs; omega)
 replace hb32_37 := hb32_37.keep hk237 (fun hs => by have h1 := hgo _ hs; have h2 := hgl _ hs; omega)
 replace hb44_224 := hb44_224.keep hk237 (fun hs => by have h1 := hgo _ hs; have h2 := hgl _ hs; omega)
 replace hA := hA.keep hk237 (fun q hq hs => (fun q h1 h2 => (hAo q h2).2.2 h1) q hs hq)
 replace hl := hl.keep hk237 (fun q hq hs => (fun q h1 h2 => dis24 q (by rw [show q = g from h1]; exact (Rfr.atg ho14)) h2) q hs hq)
 replace hK0 := Keep.fresh hK0 hk237 (by intro i hi hs; first | exact hs | (exfalso; have h1 := hgo i hs; have h2 := hgl i hs; omega) | (have h1 := hgo i hs; have h2 := hgl i hs; show _ ∨ _; omega))
 replace ho17 := ho17.keep hk237 (fun q hq hs => (fun q h1 h2 => hdis19 q (by rw [show q = g from h1]; exact (Rfr.atg ho14)) h2) q hs hq)
 have own243 : ∀ q, H238 q → 0 ≤ q ∧ q ≠ b30 ∧ q ≠ b32 ∧ q ≠ b44 := fun q hq => by rcases hfr240 q hq with h | h; (have h1 := own22 q h; have h2 := lt21 q h; omega); omega
 have lt242 := Rfr.lt hR239
 have rel244 : ∀ q, H238 q → H q ∨ w.heap.size ≤ q := fun q hq => by rcases hfr240 q hq with h | h; exact rel23 q h; exact .inr (by omega)
 have dis245 : ∀ q, H238 q → ¬ G q := fun q h1 h2 => by rcases hfr240 q h1 with h | h; exact dis24 q h h2; (have h4 := hGlt q h2; omega)
 have dis246 : ∀ q, H238 q → ¬ F16 q := fun q h1 h2 => by rcases hfr240 q h1 with h | h; exact hdis19 q h h2; (have h4 := lt25 q h2; omega)
 refine Oer ?_
 refine Oc 27 (.tmp 13) 0 (sl_ b30 0 1 1) (some 77) hb32_37 rfl ?_
 refine Ose [(10, sl_ b30 0 1 1), (11, nt 0)] ?_
 refine V_ret ?_
 obtain ⟨h1247, h2247, h3247, h4247⟩ := kil_go (xs := xs) (s := s) (ts := ts) (now := now) hong
 have hp247 : (getA rs ref).put = false := hc51
 have hb247 : ¬ (getA rs ref).backer ≠ -1 := fun h => h hc157
 have h5247 : kilX xs ts rs ref = xs := by rw [h1247]; unfold kilX2 kilX1; rw [hp247, if_neg hb247]; rfl
 have h6247 : kilR s rs ref now = ((endR s rs ref 6 now).set ref.toNat ({ (endY s (getA rs ref) ref 6 now) with put := false, backer := -1 })) := by rw [h3247]; unfold endR; rw [List.set_set]
 have h7247 : kilL xs ts rs ref = [Evt.mk 1 ref 6] := by rw [h4247]; unfold kilL2 kilL1 kilX1; rw [hp247, if_neg hb247]; rfl
 exact X_return (.tuple #[sl_ b30 0 1 1, nt 0]) rfl ⟨(some ⟨b30, 0, none⟩), 1, by rw [h7247, hong]; rfl, by rw [h7247]; exact slt_blk hb30 Evt.len rfl, (fun q h => by have h3 := inA_some h; omega), ⟨H238, F16, G, (by rw [h6247]; exact hR239), (by rw [h2247]; exact ho17), (by rw [h5247]; exact hl), rel244, rel27, hGr, dis246, dis245, dis29, fun q h1 h2 => by have h3 := inA_some h1; have h4 := lt242 q h2; have h5 := own243 q h2; omega, fun q h1 h2 => by have h3 := inA_some h1; have h4 := lt25 q h2; have h5 := own26 q h2; omega, fun q h1 h2 => by have h3 := inA_some h1; have h4 := hGlt q h2; have h5 := hlr q h2; omega⟩, hK0⟩
set_option maxRecDepth 10000 in
set_option maxHeartbeats 2000000 in
theorem kill_no (H : Nat → Prop) (r g : Nat) (ts : List Trk) (rs : List Rfm) (F : Nat → Prop) (v : Nat) (s : VS) (G : Nat → Prop) (l : Nat) (xs : List Acc) (cs : List Ci) (ref now : Int) (w : World) (hR : Rfr H w r g ts rs) (hV : VotT F w v s) (hl : Led G w l xs cs) (hHF : ∀ q, H q → ¬ F q) (hHG : ∀ q, H q → ¬ G q) (hFG : ∀ q, F q → ¬ G q) (hong : ¬ ongE rs ref = 0) : Calls Tryz.prog 63 #[pt r, pt l, pt v, nt ref, nt now] w fun e w' => ∃ A' cap', e = .returned (.tuple #[.slice A' (kilL xs ts rs ref).length cap', nt (ongE rs ref)]) ∧ SlT w' 3 Evt.cells A' cap' (kilL xs ts rs ref) ∧ (∀ q, inA A' q → w.heap.size ≤ q) ∧ (∃ H' F' G', Rfr H' w' r g ts (kilR s rs ref now) ∧ VotT F' w' v (kilS s rs ref now) ∧ Led G' w' l (kilX xs ts rs ref) cs ∧ (∀ q, H' q → H q ∨ w.heap.size ≤ q) ∧ (∀ q, F' q → F q ∨ w.heap.size ≤ q) ∧ (∀ q, G' q → G q ∨ w.heap.size ≤ q) ∧ (∀ q, H' q → ¬ F' q) ∧ (∀ q, H' q → ¬ G' q) ∧ (∀ q, F' q → ¬ G' q) ∧ (∀ q, inA A' q → ¬ H' q) ∧ (∀ q, inA A' q → ¬ F' q) ∧ (∀ q, inA A' q → ¬ G' q)) ∧ Keep (fun q => q = g ∨ F q ∨ G q) w w' := by
 have hHlt := Rfr.lt hR
 have hrH := Rfr.at_ hR
 have hgH := Rfr.atg hR
 have hrlt := hHlt _ hrH
 have hglt := hHlt _ hgH
 have hin := Rfr.inn hR
 obtain ⟨A, cap, hr, hA, hAo, hrg⟩ := Rfr.parts hR
 have hAlt := SlT.lt hA
 have hAr : ∀ q, inA A q → q ≠ r ∧ q ≠ g ∧ q < w.heap.size := fun q hq => ⟨(hAo q hq).2.1, (hAo q hq).2.2, hAlt q hq⟩
 have hgo : ∀ q, only g q → q ≠ r ∧ q = g := fun q hq => ⟨fun e => hrg (e.symm.trans hq), hq⟩
 have hgl : ∀ q, only g q → q < w.heap.size := fun q hq => by rw [show q = g from hq]; exact hglt
 have hHo : ∀ q, H q → 0 ≤ q := fun q _ => Nat.zero_le q
 have htl := hin.tl
 have hrl := hin.rl
 have hFlt := VotT.lt hV
 have hvlt := hFlt _ (VotT.at_ hV)
 have hVr : ∀ q, F q → q ≠ r := fun q hq e => hHF r hrH (e ▸ hq)
 have hGlt := Led.lt hl
 have hllt := hGlt _ (Led.at_ hl)
 have hlr : ∀ q, G q → q ≠ r := fun q hq e => hHG r hrH (e ▸ hq)
 have hinv := Led.inv hl
 have hHr : ∀ q, H q → H q ∨ w.heap.size ≤ q := fun _ h => .inl h
 have hFr : ∀ q, F q → F q ∨ w.heap.size ≤ q := fun _ h => .inl h
 have hGr : ∀ q, G q → G q ∨ w.heap.size ≤ q := fun _ h => .inl h
 have hK0 : Keep (fun q => q = g ∨ F q ∨ G q) w w := Keep.refl _ _
 have hzhK0 := Keep.size hK0
 refine enterV Tryz.func63 rfl [pt r, pt l, pt v, nt ref, nt now] 78 rfl rfl rfl ?_
 refine Vr ?_
 refine OI_box 31 (.tmp 1) (pt l) [pt l] (some 6) (by kernel_rfl) (by kernel_rfl) (by kernel_rfl) ?_
 intro b1 w1 e1 hb1 k1 z1
 have hsz2 := Keep.size k1
 replace hr := hr.k0 k1
 replace hA := hA.keep0 k1
 replace hR := hR.keep k1 nk
 replace hV := hV.keep k1 nk
 replace hl := hl.keep k1 nk
 replace hK0 := hK0.tn k1
 have hb1lt := hb1.lt
 refine On 3 [0, 2, 3, 4, 6] ?_
 refine Oe ?_
 refine V_seq ?_
 refine Vr ?_
 refine On 3 [0, 2, 3, 4, 6, 19] ?_
 refine Oc 31 (.tmp 6) 0 (pt l) (some 20) hb1 rfl ?_
 refine Ose [(0, pt r), (2, pt v), (3, nt ref), (4, nt now), (6, pt b1), (26, .bool false)] ?_
 refine V_false rfl ?_
 refine V_skip ?_
 refine X_then ?_
 refine V_seq ?_
 refine Vr ?_
 refine On 2 [0, 2, 3, 4, 6, 27, 28] ?_
 refine Ok (kL 87 #[(.tmp 27), (.tmp 28)] #[33, 3]) 87 #[pt r, nt ref] (some 29) (ongoing_spec H r g ts rs ref _ hR) ?_
 rintro _ w5 ⟨rfl, hk6⟩
 refine ⟨_, rfl, ?_⟩
 have hsz7 := Keep.size hk6
 replace hr := hr.k0 hk6
 replace hb1 := hb1.k0 hk6
 replace hA := hA.keep0 hk6
 replace hR := hR.keep hk6 nk
 replace hV := hV.keep hk6 nk
 replace hl := hl.keep hk6 nk
 replace hK0 := hK0.tn hk6
 refine On 4 [0, 2, 3, 4, 6, 12] ?_
 refine Oer ?_
 refine Ose [(0, pt r), (2, pt v), (3, nt ref), (4, nt now), (6, pt b1), (12, nt (ongE rs ref)), (31, .bool (!(decide (ongE rs ref = 0))))] ?_
 refine V_eq [(0, pt r), (2, pt v), (3, nt ref), (4, nt now), (6, pt b1), (12, nt (ongE rs ref)), (31, .bool true)] (by rw [decide_eq_false hong]; rfl) ?_
 refine V_true rfl ?_
 refine Vs [(10, .slice none 0 0), (11, nt (ongE rs ref))] ?_
 refine V_ret ?_
 refine X_ret_then ?_
 obtain ⟨_, _, _, h19, h29, h39, h49⟩ := can_no (s := s) (now := now) (xs := xs) (ts := ts) (rs := rs) (ref := ref) rfl hong
 exact X_return (.tuple #[.slice none 0 0, nt (ongE rs ref)]) rfl ⟨none, 0, by rw [h49]; rfl, by rw [h49]; exact SlT.nil _ _ _, (fun q h => (inA_none h).elim), ⟨H, F, G, (by rw [h39]; exact hR), (by rw [h29]; exact hV), (by rw [h19]; exact hl), hHr, hFr, hGr, hHF, hHG, hFG, fun q h => (inA_none h).elim, fun q h => (inA_none h).elim, fun q h => (inA_none h).elim⟩, hK0⟩
theorem kill_spec (H : Nat → Prop) (r g : Nat) (ts : List Trk) (rs : List Rfm) (F : Nat → Prop) (v : Nat) (s : VS) (G : Nat → Prop) (l : Nat) (xs : List Acc) (cs : List Ci) (ref now : Int) (w : World) (hR : Rfr H w r g ts rs) (hV : VotT F w v s) (hl : Led G w l xs cs) (hHF : ∀ q, H q → ¬ F q) (hHG : ∀ q, H q → ¬ G q) (hFG : ∀ q, F q → ¬ G q) : Calls Tryz.prog 63 #[pt r, pt l, pt v, nt ref, nt now] w fun e w' => ∃ A' cap', e = .returned (.tuple #[.slice A' (kilL xs ts rs ref).length cap', nt (ongE rs ref)]) ∧ SlT w' 3 Evt.cells A' cap' (kilL xs ts rs ref) ∧ (∀ q, inA A' q → w.heap.size ≤ q) ∧ (∃ H' F' G', Rfr H' w' r g ts (kilR s rs ref now) ∧ VotT F' w' v (kilS s rs ref now) ∧ Led G' w' l (kilX xs ts rs ref) cs ∧ (∀ q, H' q → H q ∨ w.heap.size ≤ q) ∧ (∀ q, F' q → F q ∨ w.heap.size ≤ q) ∧ (∀ q, G' q → G q ∨ w.heap.size ≤ q) ∧ (∀ q, H' q → ¬ F' q) ∧ (∀ q, H' q → ¬ G' q) ∧ (∀ q, F' q → ¬ G' q) ∧ (∀ q, inA A' q → ¬ H' q) ∧ (∀ q, inA A' q → ¬ F' q) ∧ (∀ q, inA A' q → ¬ G' q)) ∧ Keep (fun q => q = g ∨ F q ∨ G q) w w' := by
  by_cases hong : ongE rs ref = 0
  · exact kill_go H r g ts rs F v s G l xs cs ref now w hR hV hl hHF hHG hFG hong
  · exact kill_no H r g ts rs F v s G l xs cs ref now w hR hV hl hHF hHG hFG hong
end Go.Al

namespace Go.Al
open Go Go.RowKit Go.Proofs
set_option maxRecDepth 10000 in
theorem r4In_spec (n lo hi : Int) (w : World) : Calls Tryz.prog 102 #[nt n, nt lo, nt hi] w fun e w' => e = .returned (.bool (decide (lo ≤ n ∧ n ≤ hi))) ∧ w' = w := by
 refine enterV Tryz.func102 rfl [nt n, nt lo, nt hi] 15 rfl rfl rfl ?_
 refine Vr ?_
 refine On 1 [0, 1, 2] ?_
 refine Oer ?_
 refine Os 4 [(0, nt n), (2, nt hi), (10, .bool (decide (n ≥ lo)))] ?_
 by_cases hg1 : n ≥ lo
 ·
  refine OI_eq [(0, nt n), (2, nt hi), (10, .bool true)] (by first | simp [hg1] | rfl) ?_
  refine Ose [(6, .bool (decide (n ≤ hi)))] ?_
  refine V_ret ?_
  exact X_return (.bool (decide (n ≤ hi))) rfl ⟨by congr 2; simp only [Bool.decide_and]; by_cases h1 : lo ≤ n <;> simp [h1] <;> omega, rfl⟩
 refine OI_eq [(0, nt n), (2, nt hi), (10, .bool false)] (by first | simp [hg1] | rfl) ?_
 refine Ose [(6, .bool false)] ?_
 refine V_ret ?_
 exact X_return (.bool false) rfl ⟨by congr 2; simp only [Bool.decide_and]; by_cases h1 : lo ≤ n <;> simp [h1] <;> omega, rfl⟩
set_option maxRecDepth 10000 in
theorem r10In_spec (n lo hi : Int) (w : World) : Calls Tryz.prog 73 #[nt n, nt lo, nt hi] w fun e w' => e = .returned (.bool (decide (lo ≤ n ∧ n ≤ hi))) ∧ w' = w := by
 refine enterV Tryz.func73 rfl [nt n, nt lo, nt hi] 15 rfl rfl rfl ?_
 refine Vr ?_
 refine On 1 [0, 1, 2] ?_
 refine Oer ?_
 refine Os 4 [(0, nt n), (2, nt hi), (10, .bool (decide (n ≥ lo)))] ?_
 by_cases hg1 : n ≥ lo
 ·
  refine OI_eq [(0, nt n), (2, nt hi), (10, .bool true)] (by first | simp [hg1] | rfl) ?_
  refine Ose [(6, .bool (decide (n ≤ hi)))] ?_
  refine V_ret ?_
  exact X_return (.bool (decide (n ≤ hi))) rfl ⟨by congr 2; simp only [Bool.decide_and]; by_cases h1 : lo ≤ n <;> simp [h1] <;> omega, rfl⟩
 refine OI_eq [(0, nt n), (2, nt hi), (10, .bool false)] (by first | simp [hg1] | rfl) ?_
 refine Ose [(6, .bool false)] ?_
 refine V_ret ?_
 exact X_return (.bool false) rfl ⟨by congr 2; simp only [Bool.decide_and]; by_cases h1 : lo ≤ n <;> simp [h1] <;> omega, rfl⟩
set_option maxRecDepth 10000 in
theorem r4Is_spec (c : Crv) (w : World) : Calls Tryz.prog 74 #[.agg c.cells.toArray] w fun e w' => e = .returned (.bool (decide (okCrv c))) ∧ Keep none_ w w' := by
 have hK0 : Keep none_ w w := Keep.refl _ _
 have hzhK0 := Keep.size hK0
 refine enterV Tryz.func74 rfl [.agg (Crv.cells c).toArray] 69 rfl rfl rfl ?_
 refine Vr ?_
 refine OI_box 78 (.tmp 0) (.agg (Crv.cells c).toArray) (Crv.cells c) (some 1) (by kernel_rfl) (by kernel_rfl) rfl ?_
 intro b1 w1 e1 hb1 k1 z1
 have hsz2 := Keep.size k1
 replace hK0 := hK0.tn k1
 have hb1lt := hb1.lt
 refine On 2 [1] ?_
 refine Oe ?_
 refine V_seq ?_
 refine Vr ?_
 refine On 1 [1, 3] ?_
 refine Oc 3 (.tmp 3) 0 (nt c.k) (some 4) hb1 rfl ?_
 refine Oe ?_
 refine V_block ?_
 refine Vs [(1, pt b1), (4, nt c.k), (5, .bool (decide (c.k = 1)))] ?_
 refine V_if (c.k = 1) (by kernel_rfl) (fun hc3 => ?_) (fun hc3 => ?_)
 ·
  refine Vr ?_
  refine On 1 [1, 7] ?_
  refine Oc 3 (.tmp 7) 1 (nt c.a) (some 8) hb1 rfl ?_
  refine Ok (kL 102 #[(.tmp 8), (.const (nt 0)), (.const (nt 1000000000))] #[3, 3, 3]) 102 #[nt c.a, nt 0, nt 1000000000] (some 9) (r4In_spec c.a 0 1000000000 _) ?_
  rintro _ w1 ⟨rfl, rfl⟩
  refine ⟨_, rfl, ?_⟩
  refine Os 4 [(1, pt b1), (10, .bool (decide ((0 : Int) ≤ c.a ∧ c.a ≤ 1000000000)))] ?_
  by_cases hg7 : (0 : Int) ≤ c.a ∧ c.a ≤ 1000000000
  ·
   refine OI_eq [(1, pt b1), (10, .bool true)] (by first | simp [hg7] | rfl) ?_
   refine On 5 [1, 10, 11] ?_
   refine Oc 3 (.tmp 11) 2 (nt c.b) (some 12) hb1 rfl ?_
   refine On 7 [1, 10, 12, 13] ?_
   refine Oc 3 (.tmp 13) 1 (nt c.a) (some 14) hb1 rfl ?_
   refine Ok (kL 102 #[(.tmp 12), (.const (nt 0)), (.tmp 14)] #[3, 3, 3]) 102 #[nt c.b, nt 0, nt c.a] (some 15) (r4In_spec c.b 0 c.a _) ?_
   rintro _ w1 ⟨rfl, rfl⟩
   refine ⟨_, rfl, ?_⟩
   refine Os 11 [(1, pt b1), (17, .bool (decide ((0 : Int) ≤ c.b ∧ c.b ≤ c.a)))] ?_
   by_cases hg11 : (0 : Int) ≤ c.b ∧ c.b ≤ c.a
   ·
    refine OI_eq [(1, pt b1), (17, .bool true)] (by first | simp [hg11] | rfl) ?_
    refine On 12 [1, 17, 18] ?_
    refine Oc 3 (.tmp 18) 3 (nt c.c) (some 19) hb1 rfl ?_
    refine Ok (kL 102 #[(.tmp 19), (.const (nt 1)), (.const (nt 1000000000))] #[3, 3, 3]) 102 #[nt c.c, nt 1, nt 1000000000] (some 20) (r4In_spec c.c 1 1000000000 _) ?_
    rintro _ w1 ⟨rfl, rfl⟩
    refine ⟨_, rfl, ?_⟩
    refine Os 16 [(1, pt b1), (22, .bool (decide ((1 : Int) ≤ c.c ∧ c.c ≤ 1000000000)))] ?_
    by_cases hg15 : (1 : Int) ≤ c.c ∧ c.c ≤ 1000000000
    ·
     refine OI_eq [(1, pt b1), (22, .bool true)] (by first | simp [hg15] | rfl) ?_
     refine On 17 [22, 23] ?_
     refine Oc 3 (.tmp 23) 4 (nt c.d) (some 24) hb1 rfl ?_
     refine Ose [(2, .bool (decide (c.d = 0)))] ?_
     refine V_ret ?_
     refine X_ret_block ?_
     refine X_ret_then ?_
     exact X_return (.bool (decide (c.d = 0))) rfl ⟨by congr 2; first | (apply Eq.symm; (try simp only [decide_eq_true_eq]); (try simp only [decide_eq_false_iff_not]); unfold okCrv fallsC; simp_all <;> omega) | (rw [decide_eq_decide]; unfold okCrv fallsC; simp_all <;> omega), hK0⟩
    refine OI_eq [(1, pt b1), (22, .bool false)] (by first | simp [hg15] | rfl) ?_
    refine Ose [(2, .bool false)] ?_
    refine V_ret ?_
    refine X_ret_block ?_
    refine X_ret_then ?_
    exact X_return (.bool false) rfl ⟨by congr 2; first | (apply Eq.symm; (try simp only [decide_eq_true_eq]); (try simp only [decide_eq_false_iff_not]); unfold okCrv fallsC; simp_all <;> omega) | (rw [decide_eq_decide]; unfold okCrv fallsC; simp_all <;> omega), hK0⟩
   refine OI_eq [(1, pt b1), (17, .bool false)] (by first | simp [hg11] | rfl) ?_
   refine Ose [(2, .bool false)] ?_
   refine V_ret ?_
   refine X_ret_block ?_
   refine X_ret_then ?_
   exact X_return (.bool false) rfl ⟨by congr 2; first | (apply Eq.symm; (try simp only [decide_eq_true_eq]); (try simp only [decide_eq_false_iff_not]); unfold okCrv fallsC; simp_all <;> omega) | (rw [decide_eq_decide]; unfold okCrv fallsC; simp_all <;> omega), hK0⟩
  refine OI_eq [(1, pt b1), (10, .bool false)] (by first | simp [hg7] | rfl) ?_
  refine Ose [(2, .bool false)] ?_
  refine V_ret ?_
  refine X_ret_block ?_
  refine X_ret_then ?_
  exact X_return (.bool false) rfl ⟨by congr 2; first | (apply Eq.symm; (try simp only [decide_eq_true_eq]); (try simp only [decide_eq_false_iff_not]); unfold okCrv fallsC; simp_all <;> omega) | (rw [decide_eq_decide]; unfold okCrv fallsC; simp_all <;> omega), hK0⟩
 refine Vs [(1, pt b1), (4, nt c.k), (27, .bool (decide (c.k = 2)))] ?_
 refine V_if (c.k = 2) (by kernel_rfl) (fun hc16 => ?_) (fun hc16 => ?_)
 ·
  refine Vr ?_
  refine On 1 [1, 29] ?_
  refine Oc 3 (.tmp 29) 1 (nt c.a) (some 30) hb1 rfl ?_
  refine Ok (kL 102 #[(.tmp 30), (.const (nt 0)), (.const (nt 1000000000))] #[3, 3, 3]) 102 #[nt c.a, nt 0, nt 1000000000] (some 31) (r4In_spec c.a 0 1000000000 _) ?_
  rintro _ w1 ⟨rfl, rfl⟩
  refine ⟨_, rfl, ?_⟩
  refine Os 4 [(1, pt b1), (32, .bool (decide ((0 : Int) ≤ c.a ∧ c.a ≤ 1000000000)))] ?_
  by_cases hg20 : (0 : Int) ≤ c.a ∧ c.a ≤ 1000000000
  ·
   refine OI_eq [(1, pt b1), (32, .bool true)] (by first | simp [hg20] | rfl) ?_
   refine On 5 [1, 32, 33] ?_
   refine Oc 3 (.tmp 33) 2 (nt c.b) (some 34) hb1 rfl ?_
   refine On 7 [1, 32, 34, 35] ?_
   refine Oc 3 (.tmp 35) 1 (nt c.a) (some 36) hb1 rfl ?_
   refine Ok (kL 102 #[(.tmp 34), (.const (nt 0)), (.tmp 36)] #[3, 3, 3]) 102 #[nt c.b, nt 0, nt c.a] (some 37) (r4In_spec c.b 0 c.a _) ?_
   rintro _ w1 ⟨rfl, rfl⟩
   refine ⟨_, rfl, ?_⟩
   refine Os 11 [(1, pt b1), (39, .bool (decide ((0 : Int) ≤ c.b ∧ c.b ≤ c.a)))] ?_
   by_cases hg24 : (0 : Int) ≤ c.b ∧ c.b ≤ c.a
   ·
    refine OI_eq [(1, pt b1), (39, .bool true)] (by first | simp [hg24] | rfl) ?_
    refine On 12 [1, 39, 40] ?_
    refine Oc 3 (.tmp 40) 3 (nt c.c) (some 41) hb1 rfl ?_
    refine Ok (kL 102 #[(.tmp 41), (.const (nt 1)), (.const (nt 1000000000))] #[3, 3, 3]) 102 #[nt c.c, nt 1, nt 1000000000] (some 42) (r4In_spec c.c 1 1000000000 _) ?_
    rintro _ w1 ⟨rfl, rfl⟩
    refine ⟨_, rfl, ?_⟩
    refine Os 16 [(1, pt b1), (44, .bool (decide ((1 : Int) ≤ c.c ∧ c.c ≤ 1000000000)))] ?_
    by_cases hg28 : (1 : Int) ≤ c.c ∧ c.c ≤ 1000000000
    ·
     refine OI_eq [(1, pt b1), (44, .bool true)] (by first | simp [hg28] | rfl) ?_
     refine On 17 [44, 45] ?_
     refine Oc 3 (.tmp 45) 4 (nt c.d) (some 46) hb1 rfl ?_
     refine Ok (kL 102 #[(.tmp 46), (.const (nt 1)), (.const (nt 1000000000))] #[3, 3, 3]) 102 #[nt c.d, nt 1, nt 1000000000] (some 47) (r4In_spec c.d 1 1000000000 _) ?_
     rintro _ w1 ⟨rfl, rfl⟩
     refine ⟨_, rfl, ?_⟩
     refine Ose [(2, .bool (decide ((1 : Int) ≤ c.d ∧ c.d ≤ 1000000000)))] ?_
     refine V_ret ?_
     refine X_ret_block ?_
     refine X_ret_then ?_
     exact X_return (.bool (decide ((1 : Int) ≤ c.d ∧ c.d ≤ 1000000000))) rfl ⟨by congr 2; first | (apply Eq.symm; (try simp only [decide_eq_true_eq]); (try simp only [decide_eq_false_iff_not]); unfold okCrv fallsC; simp_all <;> omega) | (rw [decide_eq_decide]; unfold okCrv fallsC; simp_all <;> omega), hK0⟩
    refine OI_eq [(1, pt b1), (44, .bool false)] (by first | simp [hg28] | rfl) ?_
    refine Ose [(2, .bool false)] ?_
    refine V_ret ?_
    refine X_ret_block ?_
    refine X_ret_then ?_
    exact X_return (.bool false) rfl ⟨by congr 2; first | (apply Eq.symm; (try simp only [decide_eq_true_eq]); (try simp only [decide_eq_false_iff_not]); unfold okCrv fallsC; simp_all <;> omega) | (rw [decide_eq_decide]; unfold okCrv fallsC; simp_all <;> omega), hK0⟩
   refine OI_eq [(1, pt b1), (39, .bool false)] (by first | simp [hg24] | rfl) ?_
   refine Ose [(2, .bool false)] ?_
   refine V_ret ?_
   refine X_ret_block ?_
   refine X_ret_then ?_
   exact X_return (.bool false) rfl ⟨by congr 2; first | (apply Eq.symm; (try simp only [decide_eq_true_eq]); (try simp only [decide_eq_false_iff_not]); unfold okCrv fallsC; simp_all <;> omega) | (rw [decide_eq_decide]; unfold okCrv fallsC; simp_all <;> omega), hK0⟩
  refine OI_eq [(1, pt b1), (32, .bool false)] (by first | simp [hg20] | rfl) ?_
  refine Ose [(2, .bool false)] ?_
  refine V_ret ?_
  refine X_ret_block ?_
  refine X_ret_then ?_
  exact X_return (.bool false) rfl ⟨by congr 2; first | (apply Eq.symm; (try simp only [decide_eq_true_eq]); (try simp only [decide_eq_false_iff_not]); unfold okCrv fallsC; simp_all <;> omega) | (rw [decide_eq_decide]; unfold okCrv fallsC; simp_all <;> omega), hK0⟩
 refine Vs [(1, pt b1), (49, .bool (decide (c.k = 3)))] ?_
 refine V_if (c.k = 3) (by kernel_rfl) (fun hc32 => ?_) (fun hc32 => ?_)
 ·
  refine Vr ?_
  refine On 1 [1, 51] ?_
  refine Oc 3 (.tmp 51) 1 (nt c.a) (some 52) hb1 rfl ?_
  refine Ok (kL 102 #[(.tmp 52), (.const (nt 0)), (.const (nt 1000000000))] #[3, 3, 3]) 102 #[nt c.a, nt 0, nt 1000000000] (some 53) (r4In_spec c.a 0 1000000000 _) ?_
  rintro _ w1 ⟨rfl, rfl⟩
  refine ⟨_, rfl, ?_⟩
  refine Os 4 [(1, pt b1), (54, .bool (decide ((0 : Int) ≤ c.a ∧ c.a ≤ 1000000000)))] ?_
  by_cases hg36 : (0 : Int) ≤ c.a ∧ c.a ≤ 1000000000
  ·
   refine OI_eq [(1, pt b1), (54, .bool true)] (by first | simp [hg36] | rfl) ?_
   refine On 5 [1, 54, 55] ?_
   refine Oc 3 (.tmp 55) 2 (nt c.b) (some 56) hb1 rfl ?_
   refine Ok (kL 102 #[(.tmp 56), (.const (nt 1)), (.const (nt 1000000000))] #[3, 3, 3]) 102 #[nt c.b, nt 1, nt 1000000000] (some 57) (r4In_spec c.b 1 1000000000 _) ?_
   rintro _ w1 ⟨rfl, rfl⟩
   refine ⟨_, rfl, ?_⟩
   refine Os 9 [(1, pt b1), (59, .bool (decide ((1 : Int) ≤ c.b ∧ c.b ≤ 1000000000)))] ?_
   by_cases hg40 : (1 : Int) ≤ c.b ∧ c.b ≤ 1000000000
   ·
    refine OI_eq [(1, pt b1), (59, .bool true)] (by first | simp [hg40] | rfl) ?_
    refine On 10 [1, 59, 60] ?_
    refine Oc 3 (.tmp 60) 3 (nt c.c) (some 61) hb1 rfl ?_
    refine Ok (kL 102 #[(.tmp 61), (.const (nt 0)), (.const (nt 1000000000))] #[3, 3, 3]) 102 #[nt c.c, nt 0, nt 1000000000] (some 62) (r4In_spec c.c 0 1000000000 _) ?_
    rintro _ w1 ⟨rfl, rfl⟩
    refine ⟨_, rfl, ?_⟩
    refine Os 14 [(1, pt b1), (64, .bool (decide ((0 : Int) ≤ c.c ∧ c.c ≤ 1000000000)))] ?_
    by_cases hg44 : (0 : Int) ≤ c.c ∧ c.c ≤ 1000000000
    ·
     refine OI_eq [(1, pt b1), (64, .bool true)] (by first | simp [hg44] | rfl) ?_
     refine On 15 [64, 65] ?_
     refine Oc 3 (.tmp 65) 4 (nt c.d) (some 66) hb1 rfl ?_
     refine Ose [(2, .bool (decide (c.d = 0)))] ?_
     refine V_ret ?_
     refine X_ret_block ?_
     refine X_ret_then ?_
     exact X_return (.bool (decide (c.d = 0))) rfl ⟨by congr 2; first | (apply Eq.symm; (try simp only [decide_eq_true_eq]); (try simp only [decide_eq_false_iff_not]); unfold okCrv fallsC; simp_all <;> omega) | (rw [decide_eq_decide]; unfold okCrv fallsC; simp_all <;> omega), hK0⟩
    refine OI_eq [(1, pt b1), (64, .bool false)] (by first | simp [hg44] | rfl) ?_
    refine Ose [(2, .bool false)] ?_
    refine V_ret ?_
    refine X_ret_block ?_
    refine X_ret_then ?_
    exact X_return (.bool false) rfl ⟨by congr 2; first | (apply Eq.symm; (try simp only [decide_eq_true_eq]); (try simp only [decide_eq_false_iff_not]); unfold okCrv fallsC; simp_all <;> omega) | (rw [decide_eq_decide]; unfold okCrv fallsC; simp_all <;> omega), hK0⟩
   refine OI_eq [(1, pt b1), (59, .bool false)] (by first | simp [hg40] | rfl) ?_
   refine Ose [(2, .bool false)] ?_
   refine V_ret ?_
   refine X_ret_block ?_
   refine X_ret_then ?_
   exact X_return (.bool false) rfl ⟨by congr 2; first | (apply Eq.symm; (try simp only [decide_eq_true_eq]); (try simp only [decide_eq_false_iff_not]); unfold okCrv fallsC; simp_all <;> omega) | (rw [decide_eq_decide]; unfold okCrv fallsC; simp_all <;> omega), hK0⟩
  refine OI_eq [(1, pt b1), (54, .bool false)] (by first | simp [hg36] | rfl) ?_
  refine Ose [(2, .bool false)] ?_
  refine V_ret ?_
  refine X_ret_block ?_
  refine X_ret_then ?_
  exact X_return (.bool false) rfl ⟨by congr 2; first | (apply Eq.symm; (try simp only [decide_eq_true_eq]); (try simp only [decide_eq_false_iff_not]); unfold okCrv fallsC; simp_all <;> omega) | (rw [decide_eq_decide]; unfold okCrv fallsC; simp_all <;> omega), hK0⟩
 refine V_skip ?_
 refine X_block ?_
 refine X_then ?_
 refine Vs [(2, .bool false)] ?_
 refine V_ret ?_
 exact X_return (.bool false) rfl ⟨by congr 2; first | (apply Eq.symm; (try simp only [decide_eq_true_eq]); (try simp only [decide_eq_false_iff_not]); unfold okCrv fallsC; simp_all <;> omega) | (rw [decide_eq_decide]; unfold okCrv fallsC; simp_all <;> omega), hK0⟩
set_option maxRecDepth 10000 in
theorem r10Is_spec (x : Trk) (w : World) : Calls Tryz.prog 47 #[.agg x.cells.toArray] w fun e w' => e = .returned (.bool (decide (okTrk x))) ∧ Keep none_ w w' := by
 have hK0 : Keep none_ w w := Keep.refl _ _
 have hzhK0 := Keep.size hK0
 refine enterV Tryz.func47 rfl [.agg (Trk.cells x).toArray] 51 rfl rfl rfl ?_
 refine Vr ?_
 refine OI_box 80 (.tmp 0) (.agg (Trk.cells x).toArray) (Trk.cells x) (some 1) (by kernel_rfl) (by kernel_rfl) rfl ?_
 intro b1 w1 e1 hb1 k1 z1
 have hsz2 := Keep.size k1
 replace hK0 := hK0.tn k1
 have hb1lt := hb1.lt
 refine On 2 [1] ?_
 refine Oer ?_
 refine On 1 [1, 3] ?_
 refine Oc 3 (.tmp 3) 0 (nt x.most) (some 4) hb1 rfl ?_
 refine Ok (kL 73 #[(.tmp 4), (.const (nt 1)), (.const (nt 12))] #[3, 3, 3]) 73 #[nt x.most, nt 1, nt 12] (some 5) (r10In_spec x.most 1 12 _) ?_
 rintro _ w1 ⟨rfl, rfl⟩
 refine ⟨_, rfl, ?_⟩
 refine Os 4 [(1, pt b1), (6, .bool (decide ((1 : Int) ≤ x.most ∧ x.most ≤ 12)))] ?_
 by_cases hg6 : (1 : Int) ≤ x.most ∧ x.most ≤ 12
 ·
  refine OI_eq [(1, pt b1), (6, .bool true)] (by first | simp [hg6] | rfl) ?_
  refine On 5 [1, 6, 7] ?_
  refine Oc 3 (.tmp 7) 1 (nt x.deposit) (some 8) hb1 rfl ?_
  refine Ok (kL 73 #[(.tmp 8), (.const (nt 0)), (.const (nt 1073741824))] #[3, 3, 3]) 73 #[nt x.deposit, nt 0, nt 1073741824] (some 9) (r10In_spec x.deposit 0 1073741824 _) ?_
  rintro _ w1 ⟨rfl, rfl⟩
  refine ⟨_, rfl, ?_⟩
  refine Os 9 [(1, pt b1), (11, .bool (decide ((0 : Int) ≤ x.deposit ∧ x.deposit ≤ 1073741824)))] ?_
  by_cases hg10 : (0 : Int) ≤ x.deposit ∧ x.deposit ≤ 1073741824
  ·
   refine OI_eq [(1, pt b1), (11, .bool true)] (by first | simp [hg10] | rfl) ?_
   refine On 10 [1, 11, 12] ?_
   refine Oc 3 (.tmp 12) 16 (nt x.cap) (some 13) hb1 rfl ?_
   refine Ok (kL 73 #[(.tmp 13), (.const (nt 0)), (.const (nt 1073741824))] #[3, 3, 3]) 73 #[nt x.cap, nt 0, nt 1073741824] (some 14) (r10In_spec x.cap 0 1073741824 _) ?_
   rintro _ w1 ⟨rfl, rfl⟩
   refine ⟨_, rfl, ?_⟩
   refine Os 14 [(1, pt b1), (16, .bool (decide ((0 : Int) ≤ x.cap ∧ x.cap ≤ 1073741824)))] ?_
   by_cases hg14 : (0 : Int) ≤ x.cap ∧ x.cap ≤ 1073741824
   ·
    refine OI_eq [(1, pt b1), (16, .bool true)] (by first | simp [hg14] | rfl) ?_
    refine On 15 [1, 16, 17] ?_
    refine Oc 3 (.tmp 17) 2 (nt x.prepare) (some 18) hb1 rfl ?_
    refine Ok (kL 73 #[(.tmp 18), (.const (nt 0)), (.const (nt 1000))] #[3, 3, 3]) 73 #[nt x.prepare, nt 0, nt 1000] (some 19) (r10In_spec x.prepare 0 1000 _) ?_
    rintro _ w1 ⟨rfl, rfl⟩
    refine ⟨_, rfl, ?_⟩
    refine Os 19 [(1, pt b1), (21, .bool (decide ((0 : Int) ≤ x.prepare ∧ x.prepare ≤ 1000)))] ?_
    by_cases hg18 : (0 : Int) ≤ x.prepare ∧ x.prepare ≤ 1000
    ·
     refine OI_eq [(1, pt b1), (21, .bool true)] (by first | simp [hg18] | rfl) ?_
     refine On 20 [1, 21, 22] ?_
     refine Oc 3 (.tmp 22) 4 (nt x.confirm) (some 23) hb1 rfl ?_
     refine Ok (kL 73 #[(.tmp 23), (.const (nt 0)), (.const (nt 1000))] #[3, 3, 3]) 73 #[nt x.confirm, nt 0, nt 1000] (some 24) (r10In_spec x.confirm 0 1000 _) ?_
     rintro _ w1 ⟨rfl, rfl⟩
     refine ⟨_, rfl, ?_⟩
     refine Os 24 [(1, pt b1), (26, .bool (decide ((0 : Int) ≤ x.confirm ∧ x.confirm ≤ 1000)))] ?_
     by_cases hg22 : (0 : Int) ≤ x.confirm ∧ x.confirm ≤ 1000
     ·
      refine OI_eq [(1, pt b1), (26, .bool true)] (by first | simp [hg22] | rfl) ?_
      refine On 25 [1, 26, 27] ?_
      refine Oc 3 (.tmp 27) 5 (nt x.enact) (some 28) hb1 rfl ?_
      refine Ok (kL 73 #[(.tmp 28), (.const (nt 0)), (.const (nt 1000))] #[3, 3, 3]) 73 #[nt x.enact, nt 0, nt 1000] (some 29) (r10In_spec x.enact 0 1000 _) ?_
      rintro _ w1 ⟨rfl, rfl⟩
      refine ⟨_, rfl, ?_⟩
      refine Os 29 [(1, pt b1), (31, .bool (decide ((0 : Int) ≤ x.enact ∧ x.enact ≤ 1000)))] ?_
      by_cases hg26 : (0 : Int) ≤ x.enact ∧ x.enact ≤ 1000
      ·
       refine OI_eq [(1, pt b1), (31, .bool true)] (by first | simp [hg26] | rfl) ?_
       refine On 30 [1, 31, 32] ?_
       refine Oc 3 (.tmp 32) 3 (nt x.decision) (some 33) hb1 rfl ?_
       refine Ok (kL 73 #[(.tmp 33), (.const (nt 1)), (.const (nt 1000))] #[3, 3, 3]) 73 #[nt x.decision, nt 1, nt 1000] (some 34) (r10In_spec x.decision 1 1000 _) ?_
       rintro _ w1 ⟨rfl, rfl⟩
       refine ⟨_, rfl, ?_⟩
       refine Os 34 [(1, pt b1), (36, .bool (decide ((1 : Int) ≤ x.decision ∧ x.decision ≤ 1000)))] ?_
       by_cases hg30 : (1 : Int) ≤ x.decision ∧ x.decision ≤ 1000
       ·
        refine OI_eq [(1, pt b1), (36, .bool true)] (by first | simp [hg30] | rfl) ?_
        refine On 35 [1, 36, 37] ?_
        refine Oa 78 (.tmp 37) 6 (Crv.cells x.app) (some 38) 5 hb1 rfl rfl ?_
        refine Ok (kL 74 #[(.tmp 38)] #[78]) 74 #[.agg (Crv.cells x.app).toArray] (some 39) (r4Is_spec x.app _) ?_
        rintro _ w31 ⟨rfl, hk32⟩
        refine ⟨_, rfl, ?_⟩
        have hsz33 := Keep.size hk32
        replace hb1 := hb1.k0 hk32
        replace hK0 := hK0.tn hk32
        refine Os 39 [(1, pt b1), (41, .bool (decide (okCrv x.app)))] ?_
        by_cases hg34 : okCrv x.app
        ·
         refine OI_eq [(1, pt b1), (41, .bool true)] (by first | simp [hg34] | rfl) ?_
         refine On 40 [1, 41, 42] ?_
         refine Oa 78 (.tmp 42) 11 (Crv.cells x.sup) (some 43) 5 hb1 rfl rfl ?_
         refine Ok (kL 74 #[(.tmp 43)] #[78]) 74 #[.agg (Crv.cells x.sup).toArray] (some 44) (r4Is_spec x.sup _) ?_
         rintro _ w35 ⟨rfl, hk36⟩
         refine ⟨_, rfl, ?_⟩
         have hsz37 := Keep.size hk36
         replace hb1 := hb1.k0 hk36
         replace hK0 := hK0.tn hk36
         refine Os 44 [(1, pt b1), (46, .bool (decide (okCrv x.sup)))] ?_
         by_cases hg38 : okCrv x.sup
         ·
          refine OI_eq [(1, pt b1), (46, .bool true)] (by first | simp [hg38] | rfl) ?_
          refine On 45 [46, 47] ?_
          refine Oc 3 (.tmp 47) 17 (nt x.rank) (some 48) hb1 rfl ?_
          refine Ok (kL 73 #[(.tmp 48), (.const (nt 0)), (.const (nt 2))] #[3, 3, 3]) 73 #[nt x.rank, nt 0, nt 2] (some 49) (r10In_spec x.rank 0 2 _) ?_
          rintro _ w35 ⟨rfl, rfl⟩
          refine ⟨_, rfl, ?_⟩
          refine Ose [(2, .bool (decide ((0 : Int) ≤ x.rank ∧ x.rank ≤ 2)))] ?_
          refine V_ret ?_
          exact X_return (.bool (decide ((0 : Int) ≤ x.rank ∧ x.rank ≤ 2))) rfl ⟨by congr 2; first | (apply Eq.symm; (try simp only [decide_eq_true_eq]); (try simp only [decide_eq_false_iff_not]); unfold okTrk; simp_all <;> omega) | (rw [decide_eq_decide]; unfold okTrk; simp_all <;> omega), hK0⟩
         refine OI_eq [(1, pt b1), (46, .bool false)] (by first | simp [hg38] | rfl) ?_
         refine Ose [(2, .bool false)] ?_
         refine V_ret ?_
         exact X_return (.bool false) rfl ⟨by congr 2; first | (apply Eq.symm; (try simp only [decide_eq_true_eq]); (try simp only [decide_eq_false_iff_not]); unfold okTrk; simp_all <;> omega) | (rw [decide_eq_decide]; unfold okTrk; simp_all <;> omega), hK0⟩
        refine OI_eq [(1, pt b1), (41, .bool false)] (by first | simp [hg34] | rfl) ?_
        refine Ose [(2, .bool false)] ?_
        refine V_ret ?_
        exact X_return (.bool false) rfl ⟨by congr 2; first | (apply Eq.symm; (try simp only [decide_eq_true_eq]); (try simp only [decide_eq_false_iff_not]); unfold okTrk; simp_all <;> omega) | (rw [decide_eq_decide]; unfold okTrk; simp_all <;> omega), hK0⟩
       refine OI_eq [(1, pt b1), (36, .bool false)] (by first | simp [hg30] | rfl) ?_
       refine Ose [(2, .bool false)] ?_
       refine V_ret ?_
       exact X_return (.bool false) rfl ⟨by congr 2; first | (apply Eq.symm; (try simp only [decide_eq_true_eq]); (try simp only [decide_eq_false_iff_not]); unfold okTrk; simp_all <;> omega) | (rw [decide_eq_decide]; unfold okTrk; simp_all <;> omega), hK0⟩
      refine OI_eq [(1, pt b1), (31, .bool false)] (by first | simp [hg26] | rfl) ?_
      refine Ose [(2, .bool false)] ?_
      refine V_ret ?_
      exact X_return (.bool false) rfl ⟨by congr 2; first | (apply Eq.symm; (try simp only [decide_eq_true_eq]); (try simp only [decide_eq_false_iff_not]); unfold okTrk; simp_all <;> omega) | (rw [decide_eq_decide]; unfold okTrk; simp_all <;> omega), hK0⟩
     refine OI_eq [(1, pt b1), (26, .bool false)] (by first | simp [hg22] | rfl) ?_
     refine Ose [(2, .bool false)] ?_
     refine V_ret ?_
     exact X_return (.bool false) rfl ⟨by congr 2; first | (apply Eq.symm; (try simp only [decide_eq_true_eq]); (try simp only [decide_eq_false_iff_not]); unfold okTrk; simp_all <;> omega) | (rw [decide_eq_decide]; unfold okTrk; simp_all <;> omega), hK0⟩
    refine OI_eq [(1, pt b1), (21, .bool false)] (by first | simp [hg18] | rfl) ?_
    refine Ose [(2, .bool false)] ?_
    refine V_ret ?_
    exact X_return (.bool false) rfl ⟨by congr 2; first | (apply Eq.symm; (try simp only [decide_eq_true_eq]); (try simp only [decide_eq_false_iff_not]); unfold okTrk; simp_all <;> omega) | (rw [decide_eq_decide]; unfold okTrk; simp_all <;> omega), hK0⟩
   refine OI_eq [(1, pt b1), (16, .bool false)] (by first | simp [hg14] | rfl) ?_
   refine Ose [(2, .bool false)] ?_
   refine V_ret ?_
   exact X_return (.bool false) rfl ⟨by congr 2; first | (apply Eq.symm; (try simp only [decide_eq_true_eq]); (try simp only [decide_eq_false_iff_not]); unfold okTrk; simp_all <;> omega) | (rw [decide_eq_decide]; unfold okTrk; simp_all <;> omega), hK0⟩
  refine OI_eq [(1, pt b1), (11, .bool false)] (by first | simp [hg10] | rfl) ?_
  refine Ose [(2, .bool false)] ?_
  refine V_ret ?_
  exact X_return (.bool false) rfl ⟨by congr 2; first | (apply Eq.symm; (try simp only [decide_eq_true_eq]); (try simp only [decide_eq_false_iff_not]); unfold okTrk; simp_all <;> omega) | (rw [decide_eq_decide]; unfold okTrk; simp_all <;> omega), hK0⟩
 refine OI_eq [(1, pt b1), (6, .bool false)] (by first | simp [hg6] | rfl) ?_
 refine Ose [(2, .bool false)] ?_
 refine V_ret ?_
 exact X_return (.bool false) rfl ⟨by congr 2; first | (apply Eq.symm; (try simp only [decide_eq_true_eq]); (try simp only [decide_eq_false_iff_not]); unfold okTrk; simp_all <;> omega) | (rw [decide_eq_decide]; unfold okTrk; simp_all <;> omega), hK0⟩
def okTs (ts : List Trk) : Prop := 1 ≤ ts.length ∧ ts.length ≤ 4 ∧ ∀ t ∈ ts, okTrk t
instance (ts : List Trk) : Decidable (okTs ts) := by unfold okTs; infer_instance
set_option maxRecDepth 10000 in
theorem rbad_spec (x : Trk) (w : World) : Calls Tryz.prog 41 #[.agg x.cells.toArray] w fun e w' => e = .returned (.bool (!decide (okTrk x))) ∧ Keep none_ w w' := by
 have hK0 : Keep none_ w w := Keep.refl _ _
 have hzhK0 := Keep.size hK0
 refine enterV Tryz.func41 rfl [.agg (Trk.cells x).toArray] 6 rfl rfl rfl ?_
 refine Vr ?_
 refine OI_box 80 (.tmp 0) (.agg (Trk.cells x).toArray) (Trk.cells x) (some 1) (by kernel_rfl) (by kernel_rfl) rfl ?_
 intro b1 w1 e1 hb1 k1 z1
 have hsz2 := Keep.size k1
 replace hK0 := hK0.tn k1
 have hb1lt := hb1.lt
 refine On 2 [1] ?_
 refine Oer ?_
 refine Oa 80 (.tmp 1) 0 (Trk.cells x) (some 3) 18 hb1 (take_all (Trk.len _)) (Trk.len _) ?_
 refine Ok (kL 42 #[(.tmp 3)] #[80]) 42 #[.agg (Trk.cells x).toArray] (some 4) (trkIs_spec x _) ?_
 rintro _ w3 ⟨rfl, hk4⟩
 refine ⟨_, rfl, ?_⟩
 have hsz5 := Keep.size hk4
 replace hb1 := hb1.k0 hk4
 replace hK0 := hK0.tn hk4
 refine Ose [(2, .bool (!(decide (okTrk x))))] ?_
 refine V_ret ?_
 exact X_return (.bool (!(decide (okTrk x)))) rfl ⟨rfl, hK0⟩
set_option maxRecDepth 10000 in
theorem ixf_spec (A : Option Addr) (cap : Nat) (ts : List Trk) (w : World) (hA : SlT w 18 Trk.cells A cap ts) (hok : ∀ t ∈ ts, okTrk t) (hn4 : ts.length ≤ 4) : Calls Tryz.prog 72 #[.slice A ts.length cap, .func (.func 41) #[] #[]] w fun e w' => e = .returned (nt (-1)) ∧ Keep none_ w w' := by
 have hAlt := SlT.lt hA
 have hK0 : Keep none_ w w := Keep.refl _ _
 have hzhK0 := Keep.size hK0
 refine enterV Tryz.func72 rfl [.slice A ts.length cap, .func (.func 41) #[] #[]] 19 rfl rfl rfl ?_
 refine Vr ?_
 refine On 1 [0, 1] ?_
 refine Oe ?_
 refine V_seq ?_
 refine Vs [(0, .slice A ts.length cap), (1, .func (.func 41) #[] #[]), (7, nt (ts.length : Int)), (8, nt 0)] ?_
 refine V_block ?_
 refine V_pick [(0, .slice A ts.length cap), (1, .func (.func 41) #[] #[]), (7, nt (ts.length : Int)), (8, nt 0)] rfl ?_
 refine V_loop (fun k wI e => ∃ i : Nat, (k + i = ts.length) ∧ Keep none_ w wI ∧ e = [(0, .slice A ts.length cap), (1, .func (.func 41) #[] #[]), (7, nt (ts.length : Int)), (8, nt (i : Int))]) ts.length ⟨0, rfl, Keep.refl _ _, rfl⟩ ?_
 rintro k2 w1 _ ⟨i, hki, hk3, rfl⟩
 have hsz4 := Keep.size hk3
 replace hA := hA.keep0 hk3
 replace hK0 := hK0.tn hk3
 have hzhk3 := Keep.size hk3
 refine Vs [(0, .slice A ts.length cap), (1, .func (.func 41) #[] #[]), (7, nt (ts.length : Int)), (8, nt (i : Int)), (9, .bool (decide ((i : Int) < (ts.length : Int))))] ?_
 refine V_seq ?_
 refine V_if ((i : Int) < (ts.length : Int)) (by kernel_rfl) (fun hc5 => ?_) (fun hc5 => ?_)
 ·
  refine V_skip ?_
  refine X_then ?_
  refine V_seq ?_
  refine V_block ?_
  refine Vr ?_
  refine On 2 [0, 1, 5, 7, 8] ?_
  refine Oer ?_
  refine Os 3 [(0, .slice A ts.length cap), (1, .func (.func 41) #[] #[]), (5, nt (i : Int)), (7, nt (ts.length : Int)), (8, nt (i : Int)), (11, .func (.func 41) #[] #[]), (12, .slice A ts.length cap), (13, nt (i : Int))] ?_
  obtain ⟨b6, o6, L6, T6, rfl, hat6⟩ := SlT.opn hA
  have hb6lt := hat6.blk.lt
  have hob7 := hAlt b6 ⟨_, rfl, rfl⟩
  refine Oi (b := b6) (o := o6) (len := ts.length) (cap := cap) (j := i) (some 14) 67 (.tmp 12) (.tmp 13) 80 18 144 .i64 ?_
  obtain ⟨x8, hx9⟩ := exAt (xs := ts) (i := i)
  have hokx : okTrk x8 := hok x8 (List.mem_of_getElem? hx9)
  refine Oa 80 (.tmp 14) (o6 + i * 18) (Trk.cells x8) (some 15) 18 hat6.blk (At.elem' hat6 (es_at hx9)) (At.len hat6 (es_at hx9)) ?_
  refine Ok { callee := (Callee.value (Operand.tmp 11)), args := #[(Operand.tmp 15)], argTypes := #[80] } 41 #[.agg (Trk.cells x8).toArray] (some 16) (rbad_spec x8 _) ?_
  rintro _ w10 ⟨rfl, hk11⟩
  refine ⟨_, rfl, ?_⟩
  have hsz12 := Keep.size hk11
  replace hat6 := hat6.keep hk11 id
  replace hK0 := hK0.tn hk11
  replace hk3 := hk3.tn hk11
  refine Oe ?_
  refine V_pick [(0, sl_ b6 o6 ts.length cap), (1, .func (.func 41) #[] #[]), (5, nt (i : Int)), (7, nt (ts.length : Int)), (8, nt (i : Int)), (16, .bool (!(decide (okTrk x8))))] rfl ?_
  refine V_eq [(0, sl_ b6 o6 ts.length cap), (1, .func (.func 41) #[] #[]), (5, nt (i : Int)), (7, nt (ts.length : Int)), (8, nt (i : Int)), (16, .bool false)] (by rw [decide_eq_true hokx]; rfl) ?_
  refine V_false rfl ?_
  refine V_skip ?_
  refine X_block ?_
  refine X_then ?_
  refine V_region ?_
  have hw14 : IntKind.i64.wrap ((i : Int) + 1) = ((i + 1 : Nat) : Int) := wrp
  refine Os 1 [(0, sl_ b6 o6 ts.length cap), (1, .func (.func 41) #[] #[]), (7, nt (ts.length : Int)), (18, nt (IntKind.i64.wrap ((i : Int) + 1)))] ?_
  refine Oq (u := nt (IntKind.i64.wrap ((i : Int) + 1))) (v := nt ((i + 1 : Nat) : Int)) 18 (by rw [hw14]) ?_
  refine Os 2 [(0, sl_ b6 o6 ts.length cap), (1, .func (.func 41) #[] #[]), (7, nt (ts.length : Int)), (8, nt ((i + 1 : Nat) : Int))] ?_
  refine OI_end rfl ?_
  exact V_again (k2 - 1) (by omega) [(0, sl_ b6 o6 ts.length cap), (1, .func (.func 41) #[] #[]), (7, nt (ts.length : Int)), (8, nt ((i + 1 : Nat) : Int))] rfl ⟨i + 1, by omega, hk3, rfl⟩
 refine V_exit ?_
 refine X_exit_then ?_
 refine X_exit_then ?_
 refine X_exit_here ?_
 refine X_then ?_
 refine Vs [(4, nt (-1))] ?_
 refine V_ret ?_
 exact X_return (nt (-1)) rfl ⟨rfl, hK0⟩
set_option maxRecDepth 10000 in
theorem ctf_spec (A : Option Addr) (cap : Nat) (ts : List Trk) (w : World) (hA : SlT w 18 Trk.cells A cap ts) (hok : ∀ t ∈ ts, okTrk t) (hn4 : ts.length ≤ 4) : Calls Tryz.prog 43 #[.slice A ts.length cap, .func (.func 41) #[] #[]] w (rk_ w (.bool false)) := by
 have hAlt := SlT.lt hA
 have hK0 : Keep none_ w w := Keep.refl _ _
 have hzhK0 := Keep.size hK0
 refine enterV Tryz.func43 rfl [.slice A ts.length cap, .func (.func 41) #[] #[]] 9 rfl rfl rfl ?_
 refine Vr ?_
 refine On 1 [0, 1] ?_
 refine Oer ?_
 refine On 2 [5, 6] ?_
 refine Ok (kL 72 #[(.tmp 5), (.tmp 6)] #[67, 115]) 72 #[.slice A ts.length cap, .func (.func 41) #[] #[]] (some 7) (ixf_spec A cap ts _ hA hok hn4) ?_
 rintro _ w1 ⟨rfl, hk2⟩
 refine ⟨_, rfl, ?_⟩
 have hsz3 := Keep.size hk2
 replace hA := hA.keep0 hk2
 replace hK0 := hK0.tn hk2
 refine Ose [(4, .bool false)] ?_
 refine V_ret ?_
 exact X_return (.bool false) rfl ⟨rfl, hK0⟩
set_option maxRecDepth 10000 in
theorem tclone_nil (w : World) : Calls Tryz.prog 44 #[.slice none 0 0] w fun e w' => e = .returned (.slice none 0 0) ∧ w' = w := by
 refine enterV Tryz.func44 rfl [.slice none 0 0] 8 rfl rfl rfl ?_
 refine Vr ?_
 refine On 1 [0] ?_
 refine Oe ?_
 refine V_seq ?_
 refine Vs [(0, .slice none 0 0), (4, .bool true)] ?_
 refine V_true rfl ?_
 refine Vs [(2, .slice none 0 0)] ?_
 refine V_ret ?_
 refine X_ret_then ?_
 exact X_return _ rfl ⟨rfl, rfl⟩
set_option maxRecDepth 10000 in
theorem tclone_at (b o cap : Nat) (L : List Value) (T : TypeId) (xs : List Trk) (w : World) (h : At w b o L T 18 cap (xs.map Trk.cells)) (hn : xs.length ≤ 1000000) : Calls Tryz.prog 44 #[sl_ b o xs.length cap] w fun e w' => ∃ A' cap', e = .returned (.slice A' xs.length cap') ∧ SlT w' 18 Trk.cells A' cap' xs ∧ Keep none_ w w' ∧ (∀ k, inA A' k → w.heap.size ≤ k) := by
 have hblt := h.blk.lt
 have hK0 : Keep none_ w w := Keep.refl _ _
 have hzhK0 := Keep.size hK0
 refine enterV Tryz.func44 rfl [sl_ b o xs.length cap] 8 rfl rfl rfl ?_
 refine Vr ?_
 refine On 1 [0] ?_
 refine Oe ?_
 refine V_seq ?_
 refine Vs [(0, sl_ b o xs.length cap), (4, .bool false)] ?_
 refine V_false rfl ?_
 refine V_skip ?_
 refine X_then ?_
 refine Vr ?_
 refine OI_slit (E := 80) (zv := .agg #[nt 0, nt 0, nt 0, nt 0, nt 0, nt 0, nt 0, nt 0, nt 0, nt 0, nt 0, nt 0, nt 0, nt 0, nt 0, nt 0, nt 0, nt 0]) (sz := 18) (by_ := 144) 67 0 #[] [] [] (some 5) (by kernel_rfl) (by kernel_rfl) (by kernel_rfl) (by omega) rfl (by omega) (by intro v hv; cases hv) (by kernel_rfl) rfl ?_
 intro b1 w1 e1 hb1 k1 z1
 have hsz2 := Keep.size k1
 replace h := h.k0 k1
 replace hK0 := hK0.tn k1
 have hb1lt := hb1.lt
 refine Os 2 [(5, sl_ b1 0 0 0), (6, sl_ b o xs.length cap)] ?_
 refine OI_append (t := 67) (at2 := 67) (E := 80) (E2 := 80) (sz := 18) (by_ := 144) (zv := .agg #[nt 0, nt 0, nt 0, nt 0, nt 0, nt 0, nt 0, nt 0, nt 0, nt 0, nt 0, nt 0, nt 0, nt 0, nt 0, nt 0, nt 0, nt 0]) (m := 0) (k := xs.length) (.tmp 5) (.tmp 6) (sl_ b1 0 0 0) (sl_ b o xs.length cap) (some 7) (by kernel_rfl) (by kernel_rfl) (by kernel_rfl) (by kernel_rfl) (by kernel_rfl) (by kernel_rfl) (by kernel_rfl) (SlT.slr (slt_blk (f := Trk.cells) (xs := []) hb1 Trk.len rfl)) (SlT.slr (At.slt h)) (one_flat Trk.one) (by omega) (by omega) (by omega) (by omega) ?_
 intro v w9 hap
 obtain ⟨A9, cap9, rfl, h9, hin⟩ := SlT.of (xs := xs) hap.holds (by omega) (by simp) (fun x _ => Trk.len x)
 have hk9 : Keep (only b1) w1 w9 := hap.keep
 have hown : ∀ k, inA A9 k → w.heap.size ≤ k := fun k hk => by rcases hap.own k (hin k hk) with h | h; (have h : k = b1 := h; omega); omega
 have hsz3 := Keep.size hk9
 replace h := h.k1 hk9
 replace hK0 := Keep.fr hK0 hk9
 refine Op_ [(7, .slice A9 (0 + xs.length) cap9)] ?_
 refine Oq (u := .slice A9 (0 + xs.length) cap9) (v := .slice A9 xs.length cap9) 7 (by rw [Nat.zero_add]) ?_
 refine Ose [(2, .slice A9 xs.length cap9)] ?_
 refine V_ret ?_
 exact X_return _ rfl ⟨A9, cap9, rfl, h9, hK0, hown⟩
theorem tclone_spec (A : Option Addr) (cap : Nat) (xs : List Trk) (w : World) (hA : SlT w 18 Trk.cells A cap xs) (hn : xs.length ≤ 1000000) : Calls Tryz.prog 44 #[.slice A xs.length cap] w fun e w' => ∃ A' cap', e = .returned (.slice A' xs.length cap') ∧ SlT w' 18 Trk.cells A' cap' xs ∧ Keep none_ w w' ∧ (∀ k, inA A' k → w.heap.size ≤ k) := by
  rcases Nat.eq_zero_or_pos xs.length with h0 | h0
  · obtain rfl := List.length_eq_zero_iff.1 h0
    rcases hA with ⟨rfl, rfl, _⟩ | ⟨b, o, L, T, rfl, h1, h2, h3, h4, h5⟩
    · exact (tclone_nil w).mono (by rintro e w' ⟨rfl, rfl⟩; exact ⟨none, 0, rfl, SlT.nil _ _ _, Keep.refl _ _, fun k hk => (inA_none hk).elim⟩)
    · exact tclone_at b o cap L T [] w ⟨h1, h2, h3, h4, h5⟩ hn
  · obtain ⟨b, o, L, T, rfl, h⟩ := hA.open_ h0
    exact tclone_at b o cap L T xs w h hn
set_option maxRecDepth 10000 in
theorem rnw_spec (A : Option Addr) (cap : Nat) (ts : List Trk) (w : World) (hA : SlT w 18 Trk.cells A cap ts) (hok : okTs ts) : Calls Tryz.prog 19 #[.slice A ts.length cap] w fun e w' => ∃ r g H, e = .returned (.tuple #[pt r, nt 0]) ∧ Rfr H w' r g ts [] ∧ Keep none_ w w' ∧ (∀ q, H q → w.heap.size ≤ q) := by
 have hAlt := SlT.lt hA
 have hok1 := hok.1
 have hok2 := hok.2.1
 have hK0 : Keep none_ w w := Keep.refl _ _
 have hzhK0 := Keep.size hK0
 refine enterV Tryz.func19 rfl [.slice A ts.length cap] 23 rfl rfl rfl ?_
 refine Vr ?_
 refine On 2 [0] ?_
 refine Oer ?_
 refine On 1 [0, 4] ?_
 refine Oe ?_
 refine V_seq ?_
 refine Vr ?_
 refine Os 4 [(0, .slice A ts.length cap), (4, .func (.func 41) #[] #[]), (8, .bool (decide ((ts.length : Int) = 0)))] ?_
 refine Oq (u := .bool (decide ((ts.length : Int) = 0))) (v := .bool false) 8 (by rw [decide_eq_false (by omega : ¬ ((ts.length : Int) = 0))]) ?_
 refine Os 9 [(0, .slice A ts.length cap), (4, .func (.func 41) #[] #[]), (13, .bool (decide ((ts.length : Int) > 4)))] ?_
 refine Oq (u := .bool (decide ((ts.length : Int) > 4))) (v := .bool false) 13 (by rw [decide_eq_false (by omega : ¬ ((ts.length : Int) > 4))]) ?_
 refine On 11 [0, 13, 14, 15] ?_
 refine Ok (kL 43 #[(.tmp 14), (.tmp 15)] #[67, 115]) 43 #[.slice A ts.length cap, .func (.func 41) #[] #[]] (some 16) (ctf_spec A cap ts _ hA hok.2.2 (by omega)) ?_
 rintro _ w3 ⟨rfl, hk4⟩
 refine ⟨_, rfl, ?_⟩
 have hsz5 := Keep.size hk4
 replace hA := hA.keep0 hk4
 replace hK0 := hK0.tn hk4
 refine Ose [(0, .slice A ts.length cap), (17, .bool false)] ?_
 refine V_false rfl ?_
 refine V_skip ?_
 refine X_then ?_
 refine Vr ?_
 refine On 1 [18] ?_
 refine Ok (kL 44 #[(.tmp 18)] #[67]) 44 #[.slice A ts.length cap] (some 19) (tclone_spec A cap ts _ hA (by omega)) ?_
 rintro _ w6 ⟨A8, cap8, rfl, hA8, hk7, ow8⟩
 refine ⟨_, rfl, ?_⟩
 have hsz9 := Keep.size hk7
 replace hA := hA.keep0 hk7
 replace hK0 := hK0.tn hk7
 have lt8 := SlT.lt hA8
 refine Ok (kL 45 #[] #[]) 45 #[] (some 20) (GQ.new_grd _) ?_
 rintro _ w12 ⟨g14, F15, rfl, ho16, hk13, hge17⟩
 refine ⟨_, rfl, ?_⟩
 have hsz18 := Keep.size hk13
 replace hA := hA.keep0 hk13
 replace hA8 := hA8.keep0 hk13
 replace hK0 := hK0.tn hk13
 have own19 : ∀ q, F15 q → w6.heap.size ≤ q := fun q hq => by have h1 := hge17 q hq; omega
 have lt20 := GQ.Grd.lt ho16
 have dis21 : ∀ q, F15 q → ¬ inA A q := fun q h1 h2 => by have h3 := hge17 q h1; have h4 := hAlt q h2; omega
 have dis22 : ∀ q, F15 q → ¬ inA A8 q := fun q h1 h2 => by have h3 := hge17 q h1; have h4 := lt8 q h2; omega
 have hg14lt : g14 < w12.heap.size := GQ.Grd.lt ho16 _ (GQ.Grd.at_ ho16)
 have hg14ge := hge17 _ (GQ.Grd.at_ ho16)
 refine On 4 [21] ?_
 refine OI_box 90 (.tmp 21) (.agg #[.slice A8 ts.length cap8, pt g14]) [.slice A8 ts.length cap8, pt g14] (some 22) (by kernel_rfl) (by kernel_rfl) (by kernel_rfl) ?_
 intro b23 w23 e23 hb23 k23 z23
 have hsz24 := Keep.size k23
 replace hA := hA.keep0 k23
 replace hA8 := hA8.keep0 k23
 replace hK0 := hK0.tn k23
 replace ho16 := GQ.Grd.keep ho16 k23 nk
 have hb23lt := hb23.lt
 refine Ose [(2, pt b23), (3, nt 0)] ?_
 refine V_ret ?_
 exact X_return _ rfl ⟨b23, g14, (fun q => F15 q ∨ inA A8 q ∨ q = b23), rfl, ⟨⟨by omega, hok.2.2, by simp, fun x hx => by cases hx⟩, fun q hq => by rcases hq with h | h | h; (have h1 := lt20 q h; omega); (have h1 := lt8 q h; omega); omega, F15, A8, cap8, ⟨hb23, hA8, ho16, (fun q h1 h2 => dis22 q h2 h1), (fun q h => by have h1 := ow8 q h; have h2 := lt8 q h; omega), (fun q h => by have h1 := lt20 q h; omega)⟩, .inr (.inr rfl), fun q h => .inl h, fun q h => .inr (.inl h)⟩, hK0, fun q hq => by rcases hq with h | h | h; (have h1 := own19 q h; omega); (have h1 := ow8 q h; omega); omega⟩
end Go.Al

namespace Go.Al
open Go Go.RowKit Go.Proofs
set_option maxRecDepth 10000 in
theorem rnew6_weak (A : Option Addr) (cap : Nat) (fs : List Int) (w : World) (hA0 : ArgT w 1 intc A cap fs) (hn : fs.length ≤ 100000) : Calls Tryz.prog 18 #[.slice A fs.length cap] w fun e w' => ∃ pv n, e = .returned (.tuple #[.pointer pv, nt n]) ∧ Keep none_ w w' := by
 have hA := hA0
 have hK0 : Keep none_ w w := Keep.refl _ _
 have hzhK0 := Keep.size hK0
 refine enterV Tryz.func18 rfl [.slice A fs.length cap] 51 rfl rfl rfl ?_
 refine Vr ?_
 refine On 2 [0] ?_
 refine Oe ?_
 refine V_seq ?_
 refine Vs [(0, .slice A fs.length cap), (9, .bool (decide ((fs.length : Int) > 10)))] ?_
 refine V_if ((fs.length : Int) > 10) (by kernel_rfl) (fun hc1 => ?_) (fun hc1 => ?_)
 ·
  refine Vs [(2, .pointer none), (3, nt 1)] ?_
  refine V_ret ?_
  refine X_ret_then ?_
  exact X_return (.tuple #[.pointer none, nt 1]) rfl ⟨_, _, rfl, hK0⟩
 refine V_skip ?_
 refine X_then ?_
 refine Vr ?_
 refine OI_make (E := 114) (sz := 3) (by_ := 40) (m := 10) (kd := .i64) (zv := .agg #[nt 0, nt 0, .slice none 0 0]) 109 (.const (Value.int IntKind.i64 10)) (.const (Value.int IntKind.i64 10)) ((List.replicate 10 [nt 0, nt 0, .slice none 0 0]).flatten) (some 10) (by kernel_rfl) (by kernel_rfl) (by kernel_rfl) (by kernel_rfl) (by kernel_rfl) (by decide) (by decide) (by kernel_rfl) ?_
 intro b2 w2 e2 hb2 k2 z2
 have hsz3 := Keep.size k2
 replace hA := ArgT.keep0 hA k2
 replace hK0 := hK0.tn k2
 have hb2lt := hb2.lt
 refine On 2 [0, 11] ?_
 refine OI_box 111 (.tmp 11) (.agg #[sl_ b2 0 10 10]) [sl_ b2 0 10 10] (some 12) (by kernel_rfl) (by kernel_rfl) (by kernel_rfl) ?_
 intro b4 w4 e4 hb4 k4 z4
 have hsz5 := Keep.size k4
 replace hb2 := hb2.k0 k4
 replace hA := ArgT.keep0 hA k4
 replace hK0 := hK0.tn k4
 have hb4lt := hb4.lt
 refine On 4 [0, 4] ?_
 refine Oer ?_
 refine On 1 [0, 4, 5] ?_
 refine Oe ?_
 refine V_seq ?_
 refine Vs [(0, .slice A fs.length cap), (4, pt b4), (5, nt 0), (6, nt 0)] ?_
 refine V_block ?_
 refine V_pick [(0, .slice A fs.length cap), (4, pt b4), (5, nt 0), (6, nt 0)] rfl ?_
 refine V_loop (fun k wI e => ∃ i : Nat, ∃ s5 : Int, ∃ Lx : List Value, (k + i = fs.length) ∧ (Blk wI b2 Lx 114) ∧ (Lx.length = 30) ∧ Keep (only b2) w4 wI ∧ e = [(0, .slice A fs.length cap), (4, pt b4), (5, nt s5), (6, nt (i : Int))]) fs.length ⟨0, 0, (List.replicate 10 [nt 0, nt 0, .slice none 0 0]).flatten, by omega, hb2, by decide, Keep.refl _ _, rfl⟩ ?_
 rintro k7 w6 _ ⟨i, s5, Lx, hki, hB, hLx, hk8, rfl⟩
 have hsz9 := Keep.size hk8
 replace hb4 := hb4.k1 hk8
 replace hA := ArgT.keep hA hk8 hA0 (fun k hk hs => by have hs : k = b2 := hs; omega)
 replace hK0 := Keep.fr hK0 hk8
 have hzhk8 := Keep.size hk8
 have hb2lt := hB.lt
 refine V_seq ?_
 refine Vs [(0, .slice A fs.length cap), (4, pt b4), (5, nt s5), (6, nt (i : Int)), (16, .bool (decide ((i : Int) < (fs.length : Int))))] ?_
 refine V_if ((i : Int) < (fs.length : Int)) (by kernel_rfl) (fun hc10 => ?_) (fun hc10 => ?_)
 ·
  refine V_skip ?_
  refine X_then ?_
  refine V_seq ?_
  refine V_block ?_
  refine V_seq ?_
  refine Vr ?_
  refine On 2 [0, 4, 5, 6, 19, 20] ?_
  obtain ⟨b11, o11, L11, rfl, hat11⟩ := ArgT.open_ hA (by first | omega | (simp only [List.length_map]; omega) | (simp; done) | (simp; omega))
  have hb11lt0 := ArgT.lt hA0 (by first | omega | (simp only [List.length_map]; omega) | (simp; done) | (simp; omega))
  have hb11lt := hat11.blk.lt
  refine Oi (b := b11) (o := o11) (len := fs.length) (cap := cap) (j := i) (some 21) 49 (.tmp 19) (.tmp 20) 3 1 8 .i64 ?_
  obtain ⟨x12, hx13⟩ := exAt (xs := fs) (i := i)
  refine OI_cellR 3 (.tmp 21) (o11 + i * 1) (nt x12) (some 22) (by kernel_rfl) (by kernel_rfl) hat11.blk (m := 1) (by kernel_rfl) (AtR.cell0 hat11 (es_at hx13) rfl) ?_
  refine Os 6 [(0, sl_ b11 o11 fs.length cap), (4, pt b4), (5, nt s5), (6, nt (i : Int)), (24, .bool (decide (x12 < 0)))] ?_
  by_cases hg14 : x12 < 0
  ·
   refine OI_eq [(0, sl_ b11 o11 fs.length cap), (4, pt b4), (5, nt s5), (6, nt (i : Int)), (24, .bool true)] (by first | simp [hg14] | rfl) ?_
   refine Ose [(0, sl_ b11 o11 fs.length cap), (4, pt b4), (5, nt s5), (6, nt (i : Int)), (25, undef), (26, undef), (27, undef), (28, undef), (29, undef), (30, .bool true)] ?_
   refine V_true rfl ?_
   refine Vs [(2, .pointer none), (3, nt 1)] ?_
   refine V_ret ?_
   refine X_ret_then ?_
   refine X_ret_block ?_
   refine X_ret_then ?_
   refine X_ret_then ?_
   refine X_ret_block ?_
   refine X_ret_then ?_
   exact X_return (.tuple #[.pointer none, nt 1]) rfl ⟨_, _, rfl, hK0⟩
  refine OI_eq [(0, sl_ b11 o11 fs.length cap), (4, pt b4), (5, nt s5), (6, nt (i : Int)), (24, .bool false)] (by first | simp [hg14] | rfl) ?_
  refine On 8 [0, 4, 5, 6, 24, 25, 26] ?_
  refine Oi (b := b11) (o := o11) (len := fs.length) (cap := cap) (j := i) (some 27) 49 (.tmp 25) (.tmp 26) 3 1 8 .i64 ?_
  refine OI_cellR 3 (.tmp 27) (o11 + i * 1) (nt x12) (some 28) (by kernel_rfl) (by kernel_rfl) hat11.blk (m := 1) (by kernel_rfl) (AtR.cell0 hat11 (es_at hx13) rfl) ?_
  refine Ose [(0, sl_ b11 o11 fs.length cap), (4, pt b4), (5, nt s5), (6, nt (i : Int)), (25, sl_ b11 o11 fs.length cap), (26, nt (i : Int)), (27, .pointer (some ⟨b11, o11 + i * 1, none⟩)), (28, nt x12), (29, .bool (decide (x12 > 1073741824))), (30, .bool (decide (x12 > 1073741824)))] ?_
  refine V_if (x12 > 1073741824) (by kernel_rfl) (fun hc15 => ?_) (fun hc15 => ?_)
  ·
   refine Vs [(2, .pointer none), (3, nt 1)] ?_
   refine V_ret ?_
   refine X_ret_then ?_
   refine X_ret_block ?_
   refine X_ret_then ?_
   refine X_ret_then ?_
   refine X_ret_block ?_
   refine X_ret_then ?_
   exact X_return (.tuple #[.pointer none, nt 1]) rfl ⟨_, _, rfl, hK0⟩
  refine V_skip ?_
  refine X_then ?_
  refine V_seq ?_
  refine Vd (acts [11]) (only b2) [[0, 1, 2, 3, 4, 5, 6, 7, 8, 9, 10, 11]] ?_
  intro w17 hk16 he18 L hL19
  have hsz20 := Keep.size hk16
  replace hB := hB.k0 hk16
  replace hb4 := hb4.k0 hk16
  replace hat11 := hat11.keep hk16 id
  replace hK0 := hK0.tn hk16
  replace hk8 := hk8.tn hk16
  have qhB := hB
  have qhb4 := hb4
  have qhat11 := hat11
  have K21 : Keep (only b2) w17 w17 := Keep.refl _ _
  obtain rfl := List.mem_singleton.1 hL19
  refine Gn [3, 4, 5, 6, 7, 8, 9, 10, 11] [0, 4, 5, 6, 25, 26, 27, 28, 29, 33] ?_
  refine Gc 109 (.tmp 33) 0 (sl_ b2 0 10 10) (some 34) qhb4 (by show ¬ (_ = _); omega) rfl ?_
  refine Gs [7, 8, 9, 10, 11] [(0, sl_ b11 o11 fs.length cap), (4, pt b4), (5, nt s5), (6, nt (i : Int)), (25, sl_ b11 o11 fs.length cap), (26, nt (i : Int)), (27, .pointer (some ⟨b11, o11 + i * 1, none⟩)), (28, nt x12), (29, .bool (decide (x12 > 1073741824))), (34, sl_ b2 0 10 10), (35, nt (i : Int)), (36, sl_ b11 o11 fs.length cap), (37, nt (i : Int))] ?_
  refine GI_pure (some 38) (.indexAddr 49 (.tmp 36) (.tmp 37)) (by kernel_rfl) (by kernel_rfl) (pure_idxN (b := b11) (o := o11) (len := fs.length) (cap := cap) (kd := .i64) (j := i) (E := 3) (sz := 1) (by_ := 8) (by kernel_rfl) (by kernel_rfl) (by kernel_rfl) (by omega)) ?_
  refine GI_cellR 3 (.tmp 38) (o11 + i * 1) (nt x12) (some 39) (by kernel_rfl) (by kernel_rfl) (by kernel_rfl) qhat11.blk (by show ¬ (_ = _); omega) (m := 1) (by kernel_rfl) (AtR.cell0 qhat11 (es_at hx13) rfl) ?_
  refine GI_pure (some 40) (.indexAddr 109 (.tmp 34) (.tmp 35)) (by kernel_rfl) (by kernel_rfl) (pure_idxN (b := b2) (o := 0) (len := 10) (cap := 10) (kd := .i64) (j := i) (E := 114) (sz := 3) (by_ := 40) (by kernel_rfl) (by kernel_rfl) (by kernel_rfl) (by omega)) ?_
  refine Gn [11] [0, 4, 5, 6, 25, 26, 27, 28, 29, 39, 41] ?_
  refine GI_final 11 (by kernel_rfl) (by kernel_rfl) ?_
  refine OI_set (m := 1) (kd := false) 3 (.tmp 41) (.tmp 39) (0 + i * 3) (nt x12) [nt x12] none (by kernel_rfl) (by kernel_rfl) (by kernel_rfl) hB (by kernel_rfl) (by kernel_rfl) (by kernel_rfl) (by rw [hLx]; show 0 + i * 3 + 1 ≤ 30; omega) (by simp [Value.oneCell']) ?_
  intro w22 hb2_25 hk23 hz24
  replace hb2_25 : Blk w22 b2 (over Lx (0 + i * 3) [nt x12]) 114 := hb2_25
  have hsz26 := Keep.size hk23
  replace hb4 := hb4.k1 hk23
  replace hat11 := hat11.keep hk23 (by show ¬ (_ = _); omega)
  replace hK0 := Keep.fr hK0 hk23
  replace hk8 := Keep.fr hk8 hk23
  refine Oe ?_
  refine V_region ?_
  refine On 3 [0, 4, 6, 25, 26, 27, 28, 29, 42, 43, 44] ?_
  refine Oi (b := b11) (o := o11) (len := fs.length) (cap := cap) (j := i) (some 45) 49 (.tmp 43) (.tmp 44) 3 1 8 .i64 ?_
  refine OI_cellR 3 (.tmp 45) (o11 + i * 1) (nt x12) (some 46) (by kernel_rfl) (by kernel_rfl) hat11.blk (m := 1) (by kernel_rfl) (AtR.cell0 hat11 (es_at hx13) rfl) ?_
  refine Os 7 [(0, sl_ b11 o11 fs.length cap), (4, pt b4), (5, nt (IntKind.i64.wrap (s5 + x12))), (6, nt (i : Int)), (25, sl_ b11 o11 fs.length cap), (26, nt (i : Int)), (27, .pointer (some ⟨b11, o11 + i * 1, none⟩)), (28, nt x12), (29, .bool (decide (x12 > 1073741824)))] ?_
  refine OI_end rfl ?_
  refine X_block ?_
  refine X_then ?_
  refine V_region ?_
  have hw27 : IntKind.i64.wrap ((i : Int) + 1) = ((i + 1 : Nat) : Int) := wrp
  refine Os 2 [(0, sl_ b11 o11 fs.length cap), (4, pt b4), (5, nt (IntKind.i64.wrap (s5 + x12))), (18, nt (IntKind.i64.wrap ((i : Int) + 1))), (25, sl_ b11 o11 fs.length cap), (26, nt (i : Int)), (27, .pointer (some ⟨b11, o11 + i * 1, none⟩)), (28, nt x12), (29, .bool (decide (x12 > 1073741824)))] ?_
  refine Oq (u := nt (IntKind.i64.wrap ((i : Int) + 1))) (v := nt ((i + 1 : Nat) : Int)) 18 (by rw [hw27]) ?_
  refine Os 3 [(0, sl_ b11 o11 fs.length cap), (4, pt b4), (5, nt (IntKind.i64.wrap (s5 + x12))), (6, nt ((i + 1 : Nat) : Int)), (25, sl_ b11 o11 fs.length cap), (26, nt (i : Int)), (27, .pointer (some ⟨b11, o11 + i * 1, none⟩)), (28, nt x12), (29, .bool (decide (x12 > 1073741824)))] ?_
  refine OI_end rfl ?_
  exact V_again (k7 - 1) (by omega) [(0, sl_ b11 o11 fs.length cap), (4, pt b4), (5, nt (IntKind.i64.wrap (s5 + x12))), (6, nt ((i + 1 : Nat) : Int))] rfl ⟨i + 1, IntKind.i64.wrap (s5 + x12), (over Lx (0 + i * 3) [nt x12]), by omega, hb2_25, by rw [over_length (by rw [hLx]; show 0 + i * 3 + 1 ≤ 30; omega)]; exact hLx, hk8, rfl⟩
 refine V_exit ?_
 refine X_exit_then ?_
 refine X_exit_then ?_
 refine X_exit_here ?_
 refine X_then ?_
 refine V_seq ?_
 refine Vs [(4, pt b4), (49, .bool (decide (s5 > 1073741824)))] ?_
 refine V_if (s5 > 1073741824) (by kernel_rfl) (fun hc28 => ?_) (fun hc28 => ?_)
 ·
  refine Vs [(2, .pointer none), (3, nt 1)] ?_
  refine V_ret ?_
  refine X_ret_then ?_
  exact X_return (.tuple #[.pointer none, nt 1]) rfl ⟨_, _, rfl, hK0⟩
 refine V_skip ?_
 refine X_then ?_
 refine Vs [(2, pt b4), (3, nt 0)] ?_
 refine V_ret ?_
 exact X_return (.tuple #[pt b4, nt 0]) rfl ⟨_, _, rfl, hK0⟩
set_option maxRecDepth 10000 in
theorem rnew11_weak (w : World) : Calls Tryz.prog 23 #[] w fun e w' => ∃ pv, e = .returned (.pointer pv) ∧ Keep none_ w w' := by
 have hK0 : Keep none_ w w := Keep.refl _ _
 have hzhK0 := Keep.size hK0
 refine enterV Tryz.func23 rfl [] 5 rfl rfl rfl ?_
 refine Vs [] ?_
 refine V_seq ?_
 refine V_draws (acts [0, 1, 3]) none_ [[0, 1, 2, 3, 4], [1, 0, 2, 3, 4]] (by kernel_rfl) (by repeat first | exact sure_body (by rintro _ _ ⟨_, h, _⟩; exact ⟨_, h⟩) | refine sure_then ?_ | refine sure_block ?_ | refine sure_join ?_) (by kernel_rfl) ?_
 intro w2 hk1 he3 L hL4
 have hsz5 := Keep.size hk1
 replace hK0 := hK0.tn hk1
 have K6 : Keep none_ w2 w2 := Keep.refl _ _
 simp only [List.mem_cons, List.not_mem_nil, or_false] at hL4
 rcases hL4 with rfl | rfl
 ·
  refine GI_make (E := 171) (sz := 7) (by_ := 56) (m := 12) (kd := .i64) (zv := .agg #[.bool false, nt 0, nt 0, nt 0, nt 0, nt 0, nt 0]) 131 (.const (Value.int IntKind.i64 12)) (.const (Value.int IntKind.i64 12)) ((List.replicate 12 [.bool false, nt 0, nt 0, nt 0, nt 0, nt 0, nt 0]).flatten) (some 1) (by kernel_rfl) (by kernel_rfl) K6 (by kernel_rfl) (by kernel_rfl) (by kernel_rfl) (by kernel_rfl) (by decide) (by decide) (by kernel_rfl) ?_
  intro b7 w7 e7 hb7 k7 z7 K8
  have hsz9 := Keep.size k7
  replace hK0 := hK0.tn k7
  have hb7lt := hb7.lt
  refine GI_make (E := 235) (sz := 9) (by_ := 88) (m := 40) (kd := .i64) (zv := .agg #[.slice none 0 0, .bool false, nt 0, nt 0, nt 0, nt 0, nt 0, nt 0, nt 0]) 132 (.const (Value.int IntKind.i64 40)) (.const (Value.int IntKind.i64 40)) ((List.replicate 40 [.slice none 0 0, .bool false, nt 0, nt 0, nt 0, nt 0, nt 0, nt 0, nt 0]).flatten) (some 2) (by kernel_rfl) (by kernel_rfl) K8 (by kernel_rfl) (by kernel_rfl) (by kernel_rfl) (by kernel_rfl) (by decide) (by decide) (by kernel_rfl) ?_
  intro b10 w10 e10 hb10 k10 z10 K11
  have hsz12 := Keep.size k10
  replace hb7 := hb7.k0 k10
  replace hK0 := hK0.tn k10
  have hb10lt := hb10.lt
  refine Gn [3, 4] [3] ?_
  refine GI_box 134 (.tmp 3) (.agg #[sl_ b7 0 12 12, sl_ b10 0 40 40]) [sl_ b7 0 12 12, sl_ b10 0 40 40] (some 4) (by kernel_rfl) (by kernel_rfl) K11 (by kernel_rfl) (by kernel_rfl) ?_
  intro b13 w13 e13 hb13 k13 z13 K14
  have hsz15 := Keep.size k13
  replace hb7 := hb7.k0 k13
  replace hb10 := hb10.k0 k13
  replace hK0 := hK0.tn k13
  have hb13lt := hb13.lt
  refine Gs [] [(0, pt b13)] ?_
  refine GI_end ?_
  refine X_then ?_
  refine V_ret ?_
  exact X_return _ rfl ⟨_, rfl, hK0⟩
 ·
  refine GI_make (E := 235) (sz := 9) (by_ := 88) (m := 40) (kd := .i64) (zv := .agg #[.slice none 0 0, .bool false, nt 0, nt 0, nt 0, nt 0, nt 0, nt 0, nt 0]) 132 (.const (Value.int IntKind.i64 40)) (.const (Value.int IntKind.i64 40)) ((List.replicate 40 [.slice none 0 0, .bool false, nt 0, nt 0, nt 0, nt 0, nt 0, nt 0, nt 0]).flatten) (some 2) (by kernel_rfl) (by kernel_rfl) K6 (by kernel_rfl) (by kernel_rfl) (by kernel_rfl) (by kernel_rfl) (by decide) (by decide) (by kernel_rfl) ?_
  intro b16 w16 e16 hb16 k16 z16 K17
  have hsz18 := Keep.size k16
  replace hK0 := hK0.tn k16
  have hb16lt := hb16.lt
  refine GI_make (E := 171) (sz := 7) (by_ := 56) (m := 12) (kd := .i64) (zv := .agg #[.bool false, nt 0, nt 0, nt 0, nt 0, nt 0, nt 0]) 131 (.const (Value.int IntKind.i64 12)) (.const (Value.int IntKind.i64 12)) ((List.replicate 12 [.bool false, nt 0, nt 0, nt 0, nt 0, nt 0, nt 0]).flatten) (some 1) (by kernel_rfl) (by kernel_rfl) K17 (by kernel_rfl) (by kernel_rfl) (by kernel_rfl) (by kernel_rfl) (by decide) (by decide) (by kernel_rfl) ?_
  intro b19 w19 e19 hb19 k19 z19 K20
  have hsz21 := Keep.size k19
  replace hb16 := hb16.k0 k19
  replace hK0 := hK0.tn k19
  have hb19lt := hb19.lt
  refine Gn [3, 4] [3] ?_
  refine GI_box 134 (.tmp 3) (.agg #[sl_ b19 0 12 12, sl_ b16 0 40 40]) [sl_ b19 0 12 12, sl_ b16 0 40 40] (some 4) (by kernel_rfl) (by kernel_rfl) K20 (by kernel_rfl) (by kernel_rfl) ?_
  intro b22 w22 e22 hb22 k22 z22 K23
  have hsz24 := Keep.size k22
  replace hb16 := hb16.k0 k22
  replace hb19 := hb19.k0 k22
  replace hK0 := hK0.tn k22
  have hb22lt := hb22.lt
  refine Gs [] [(0, pt b22)] ?_
  refine GI_end ?_
  refine X_then ?_
  refine V_ret ?_
  exact X_return _ rfl ⟨_, rfl, hK0⟩
set_option maxRecDepth 10000 in
theorem rnew12_weak (A : Option Addr) (cap : Nat) (ts : List Trk) (w : World) (hA : SlT w 18 Trk.cells A cap ts) (hok : okTs ts) : Calls Tryz.prog 21 #[.slice A ts.length cap] w fun e w' => ∃ pv, e = .returned (.tuple #[.pointer pv, nt 0]) ∧ Keep none_ w w' := by
 have hAlt := SlT.lt hA
 have hok1 := hok.1
 have hok2 := hok.2.1
 have hK0 : Keep none_ w w := Keep.refl _ _
 have hzhK0 := Keep.size hK0
 refine enterV Tryz.func21 rfl [.slice A ts.length cap] 30 rfl rfl rfl ?_
 refine Vr ?_
 refine On 2 [0] ?_
 refine Oe ?_
 refine V_seq ?_
 refine Vr ?_
 refine Os 4 [(0, .slice A ts.length cap), (8, .bool (decide ((ts.length : Int) < 1)))] ?_
 refine Oq (u := .bool (decide ((ts.length : Int) < 1))) (v := .bool false) 8 (by rw [decide_eq_false (by omega : ¬ ((ts.length : Int) < 1))]) ?_
 refine Ose [(0, .slice A ts.length cap), (12, .bool (decide ((ts.length : Int) > 4)))] ?_
 refine V_pick [(0, .slice A ts.length cap), (12, .bool (decide ((ts.length : Int) > 4)))] rfl ?_
 refine V_eq [(0, .slice A ts.length cap), (12, .bool false)] (by rw [decide_eq_false (by omega : ¬ ((ts.length : Int) > 4))]) ?_
 refine V_false rfl ?_
 refine V_skip ?_
 refine X_then ?_
 refine V_seq ?_
 refine Vs [(0, .slice A ts.length cap), (4, nt 0)] ?_
 refine V_block ?_
 refine V_pick [(0, .slice A ts.length cap), (4, nt 0)] rfl ?_
 refine V_loop (fun k wI e => ∃ i : Nat, (k + i = ts.length) ∧ Keep none_ w wI ∧ e = [(0, .slice A ts.length cap), (4, nt (i : Int))]) ts.length ⟨0, rfl, Keep.refl _ _, rfl⟩ ?_
 rintro k4 w3 _ ⟨i, hki, hk5, rfl⟩
 have hsz6 := Keep.size hk5
 replace hA := hA.keep0 hk5
 replace hK0 := hK0.tn hk5
 have hzhk5 := Keep.size hk5
 refine V_seq ?_
 refine Vs [(0, .slice A ts.length cap), (4, nt (i : Int)), (16, .bool (decide ((i : Int) < (ts.length : Int))))] ?_
 refine V_if ((i : Int) < (ts.length : Int)) (by kernel_rfl) (fun hc7 => ?_) (fun hc7 => ?_)
 ·
  refine V_skip ?_
  refine X_then ?_
  refine V_seq ?_
  refine V_block ?_
  refine Vr ?_
  refine On 2 [0, 4, 19, 20] ?_
  obtain ⟨b8, o8, L8, T8, rfl, hat8⟩ := SlT.opn hA
  have hb8lt := hat8.blk.lt
  have hob9 := hAlt b8 ⟨_, rfl, rfl⟩
  refine Oi (b := b8) (o := o8) (len := ts.length) (cap := cap) (j := i) (some 21) 67 (.tmp 19) (.tmp 20) 80 18 144 .i64 ?_
  obtain ⟨x10, hx11⟩ := exAt (xs := ts) (i := i)
  have hokx : okTrk x10 := hok.2.2 x10 (List.mem_of_getElem? hx11)
  refine Oa 80 (.tmp 21) (o8 + i * 18) (Trk.cells x10) (some 22) 18 hat8.blk (At.elem' hat8 (es_at hx11)) (At.len hat8 (es_at hx11)) ?_
  refine Ok (kL 47 #[(.tmp 22)] #[80]) 47 #[.agg (Trk.cells x10).toArray] (some 23) (r10Is_spec x10 _) ?_
  rintro _ w12 ⟨rfl, hk13⟩
  refine ⟨_, rfl, ?_⟩
  have hsz14 := Keep.size hk13
  replace hat8 := hat8.keep hk13 id
  replace hK0 := hK0.tn hk13
  replace hk5 := hk5.tn hk13
  refine Ose [(0, sl_ b8 o8 ts.length cap), (4, nt (i : Int)), (24, .bool (!(decide (okTrk x10))))] ?_
  refine V_pick [(0, sl_ b8 o8 ts.length cap), (4, nt (i : Int)), (24, .bool (!(decide (okTrk x10))))] rfl ?_
  refine V_eq [(0, sl_ b8 o8 ts.length cap), (4, nt (i : Int)), (24, .bool false)] (by rw [decide_eq_true hokx]; rfl) ?_
  refine V_false rfl ?_
  refine V_skip ?_
  refine X_block ?_
  refine X_then ?_
  refine V_region ?_
  have hw16 : IntKind.i64.wrap ((i : Int) + 1) = ((i + 1 : Nat) : Int) := wrp
  refine Os 2 [(0, sl_ b8 o8 ts.length cap), (18, nt (IntKind.i64.wrap ((i : Int) + 1)))] ?_
  refine Oq (u := nt (IntKind.i64.wrap ((i : Int) + 1))) (v := nt ((i + 1 : Nat) : Int)) 18 (by rw [hw16]) ?_
  refine Os 3 [(0, sl_ b8 o8 ts.length cap), (4, nt ((i + 1 : Nat) : Int))] ?_
  refine OI_end rfl ?_
  exact V_again (k4 - 1) (by omega) [(0, sl_ b8 o8 ts.length cap), (4, nt ((i + 1 : Nat) : Int))] rfl ⟨i + 1, by omega, hk5, rfl⟩
 refine V_exit ?_
 refine X_exit_then ?_
 refine X_exit_then ?_
 refine X_exit_here ?_
 refine X_then ?_
 refine Vr ?_
 refine OI_slit (E := 80) (zv := .agg #[nt 0, nt 0, nt 0, nt 0, nt 0, nt 0, nt 0, nt 0, nt 0, nt 0, nt 0, nt 0, nt 0, nt 0, nt 0, nt 0, nt 0, nt 0]) (sz := 18) (by_ := 144) 67 0 #[] [] [] (some 25) (by kernel_rfl) (by kernel_rfl) (by kernel_rfl) (by omega) rfl (by omega) (by intro v hv; cases hv) (by kernel_rfl) rfl ?_
 intro b17 w17 e17 hb17 k17 z17
 have hsz18 := Keep.size k17
 replace hA := hA.keep0 k17
 replace hK0 := hK0.tn k17
 have hb17lt := hb17.lt
 refine Os 2 [(25, sl_ b17 0 0 0), (26, .slice A ts.length cap)] ?_
 have hl19 : ts.length = ts.length := rfl
 have hy19 := SlT.slr hA
 refine OI_append (t := 67) (at2 := 67) (E := 80) (E2 := 80) (sz := 18) (by_ := 144) (zv := .agg #[nt 0, nt 0, nt 0, nt 0, nt 0, nt 0, nt 0, nt 0, nt 0, nt 0, nt 0, nt 0, nt 0, nt 0, nt 0, nt 0, nt 0, nt 0]) (m := ([] : List Trk).length) (k := ts.length) (.tmp 25) (.tmp 26) (sl_ b17 0 0 0) (.slice A ts.length cap) (some 27) (by kernel_rfl) (by kernel_rfl) (by kernel_rfl) (by kernel_rfl) (by kernel_rfl) (by kernel_rfl) (by kernel_rfl) (SlT.slr (slt_blk (xs := ([] : List Trk)) (f := Trk.cells) (sz := 18) hb17 Trk.len rfl)) hy19 (fun u hu => by obtain ⟨z, _, hz⟩ := List.mem_flatMap.1 hu; exact Trk.one z u hz) (by first | omega | ((repeat first | rw [List.length_append] | rw [List.length_cons] | rw [List.length_nil] | rw [List.length_take] | rw [List.length_drop]) <;> omega)) (by omega) (by first | omega | ((repeat first | rw [List.length_append] | rw [List.length_cons] | rw [List.length_nil] | rw [List.length_take] | rw [List.length_drop]) <;> omega)) (by omega) ?_
 intro vv9 w19 hap
 obtain ⟨A19, cap19, rfl, hA19, hk19, own19x⟩ := app_many (f := Trk.cells) (xs := ([] : List Trk)) (ys := ts) (A := (some ⟨b17, 0, none⟩)) (cap := 0) hap hl19 Trk.len
 replace hk19 : Keep (only b17) w17 w19 := hk19.mono (fun i _ h => inA_some h)
 have own19 : ∀ q, inA A19 q → w.heap.size ≤ q := fun q hq => by rcases own19x q hq with h | h; (have h9 := inA_some h; show w.heap.size ≤ q; omega); (show w.heap.size ≤ q; omega)
 rw [List.nil_append] at hA19
 have hsz20 := Keep.size hk19
 replace hA := hA.keep hk19 (fun q hq hs => by have hs : q = b17 := hs; have g1 := hAlt q hq; omega)
 replace hK0 := Keep.fr hK0 hk19
 have lt19 := SlT.lt hA19
 have hcap19 := SlT.cap_le hA19
 refine On 4 [28] ?_
 refine OI_box 98 (.tmp 28) (.agg #[.slice A19 ts.length cap19, .slice none 0 0]) [.slice A19 ts.length cap19, .slice none 0 0] (some 29) (by kernel_rfl) (by kernel_rfl) (by kernel_rfl) ?_
 intro b21 w21 e21 hb21 k21 z21
 have hsz22 := Keep.size k21
 replace hA := hA.keep0 k21
 replace hA19 := hA19.keep0 k21
 replace hK0 := hK0.tn k21
 have hb21lt := hb21.lt
 refine Ose [(2, pt b21), (3, nt 0)] ?_
 refine V_ret ?_
 exact X_return _ rfl ⟨_, rfl, hK0⟩
end Go.Al

namespace Go.Al
open Go Go.RowKit Go.Proofs
inductive CA where
  | mk (k to n : Int) (A : Option Addr) (cap : Nat) (kids : List CA)
namespace CA
def k : CA → Int | .mk x _ _ _ _ _ => x
def to : CA → Int | .mk _ x _ _ _ _ => x
def n : CA → Int | .mk _ _ x _ _ _ => x
def A : CA → Option Addr | .mk _ _ _ x _ _ => x
def cap : CA → Nat | .mk _ _ _ _ x _ => x
def kids : CA → List CA | .mk _ _ _ _ _ x => x
def cells (c : CA) : List Value := [nt c.k, nt c.to, nt c.n, .slice c.A c.kids.length c.cap]
theorem len (c : CA) : c.cells.length = 4 := rfl
theorem one (c : CA) : ∀ u ∈ c.cells, u.oneCell' = true := one_all' rfl
end CA
inductive RepIn (D : Nat → Prop) (w : World) : CA → Prop
  | mk0 {c : CA} (hs : ArgT w 4 CA.cells c.A c.cap c.kids) (hD : 0 < c.kids.length → ∀ q, inA c.A q → D q) (hk : ∀ x ∈ c.kids, RepIn D w x) : RepIn D w c
theorem RepIn.mk {D : Nat → Prop} {w : World} {c : CA} (hs : ArgT w 4 CA.cells c.A c.cap c.kids) (hD : ∀ q, inA c.A q → D q) (hk : ∀ x ∈ c.kids, RepIn D w x) : RepIn D w c := .mk0 hs (fun _ => hD) hk
def RepL (D : Nat → Prop) (w : World) (A : Option Addr) (cap : Nat) (l : List CA) : Prop := ArgT w 4 CA.cells A cap l ∧ (0 < l.length → ∀ q, inA A q → D q) ∧ ∀ x ∈ l, RepIn D w x
section
variable {D S : Nat → Prop} {w w' : World} {c : CA}
theorem ArgT.keepD {α : Type} {sz cap : Nat} {f : α → List Value} {A : Option Addr} {xs : List α} (h : ArgT w sz f A cap xs) (hk : Keep S w w') (hS : 0 < xs.length → ∀ q, inA A q → ¬ S q) : ArgT w' sz f A cap xs := by
  rcases h with h | ⟨b, o, L, h1, h2⟩
  · exact .inl h
  · rcases Nat.eq_zero_or_pos xs.length with h0 | h0
    · exact .inl (List.length_eq_zero_iff.1 h0)
    · exact .inr ⟨b, o, L, h1, h2.keep hk (hS h0 b (by rw [h1]; exact ⟨_, rfl, rfl⟩))⟩
theorem RepIn.keep (h : RepIn D w c) (hk : Keep S w w') (hd : ∀ q, D q → ¬ S q) : RepIn D w' c := by
  induction h with
  | mk0 hs hD _ ih => exact .mk0 (hs.keepD hk (fun h0 q hq => hd q (hD h0 q hq))) hD ih
theorem RepIn.quiet {N : Nat} (h : RepIn D w c) (hk : Keep (lb N w) w w') (hd : ∀ q, D q → ¬ lb N w q) : RepIn D w' c := h.keep hk hd
theorem RepIn.mono {D' : Nat → Prop} (h : RepIn D w c) (hd : ∀ q, D q → D' q) : RepIn D' w c := by
  induction h with
  | mk0 hs hD _ ih => exact .mk0 hs (fun h0 q hq => hd q (hD h0 q hq)) ih
theorem RepIn.l (h : RepIn D w c) : RepL D w c.A c.cap c.kids := by
  cases h with
  | mk0 hs hD hk => exact ⟨hs, hD, hk⟩
theorem RepIn.none {k to n : Int} {A : Option Addr} {cap : Nat} (hA : ∀ q, inA A q → D q) : RepIn D w (.mk k to n A cap []) := .mk (.inl rfl) hA (fun x hx => by cases hx)
theorem RepL.keep {A : Option Addr} {cap : Nat} {l : List CA} (h : RepL D w A cap l) (hk : Keep S w w') (hd : ∀ q, D q → ¬ S q) : RepL D w' A cap l := ⟨h.1.keepD hk (fun h0 q hq => hd q (h.2.1 h0 q hq)), h.2.1, fun x hx => (h.2.2 x hx).keep hk hd⟩
end
def stepC (b : Bool) (ok : CA → Bool) (c : CA) : Bool :=
  (decide (c.k = 1) && decide (c.kids.length = 0) && decide (c.to = 0) && decide (0 ≤ c.n ∧ c.n ≤ 1073741824)) ||
  (decide (c.k = 2) && decide (c.kids.length = 0) && decide (0 ≤ c.to ∧ c.to ≤ 9) && decide (0 ≤ c.n ∧ c.n ≤ 1073741824)) ||
  (decide (c.k = 3 ∨ c.k = 4) && decide (c.kids.length = 0) && decide (c.to = 0) && decide (0 ≤ c.n ∧ c.n ≤ 11)) ||
  (decide (c.k = 5) && b && decide (c.to = 0) && decide (c.n = 0) && decide (1 ≤ c.kids.length ∧ c.kids.length ≤ 4) && c.kids.all ok)
def okCA : Nat → CA → Bool
  | 0 => stepC false (fun _ => false)
  | f + 1 => stepC true (okCA f)
def ixC (ok : CA → Bool) : Nat → List CA → Int
  | _, [] => -1
  | i, x :: l => if ok x = true then ixC ok (i + 1) l else i
theorem ixC_ge (ok : CA → Bool) : ∀ (l : List CA) (i : Nat), decide (ixC ok i l ≥ 0) = !(l.all ok) := by
  intro l i
  rw [Bool.eq_iff_iff, decide_eq_true_eq]
  induction l generalizing i with
  | nil => simp [ixC]
  | cons x l ih =>
    rw [show ixC ok i (x :: l) = if ok x = true then ixC ok (i + 1) l else i from rfl, List.all_cons]
    by_cases h : ok x = true
    · rw [if_pos h, h, Bool.true_and]; exact ih (i + 1)
    · rw [if_neg h]; simp [h]
theorem ixC_drop {ok : CA → Bool} {l : List CA} {i : Nat} {x : CA} (h : l[i]? = some x) : ixC ok i (l.drop i) = if ok x = true then ixC ok (i + 1) (l.drop (i + 1)) else i := by
  obtain ⟨h1, rfl⟩ := List.getElem?_eq_some_iff.1 h
  rw [List.drop_eq_getElem_cons h1]; rfl
set_option maxRecDepth 10000 in
theorem cdIn_spec (n lo hi : Int) (w : World) : Calls Tryz.prog 82 #[nt n, nt lo, nt hi] w fun e w' => e = .returned (.bool (decide (lo ≤ n ∧ n ≤ hi))) ∧ w' = w := by
 refine enterV Tryz.func82 rfl [nt n, nt lo, nt hi] 15 rfl rfl rfl ?_
 refine Vr ?_
 refine On 1 [0, 1, 2] ?_
 refine Oer ?_
 refine Os 4 [(0, nt n), (2, nt hi), (10, .bool (decide (n ≥ lo)))] ?_
 by_cases hg1 : n ≥ lo
 ·
  refine OI_eq [(0, nt n), (2, nt hi), (10, .bool true)] (by first | simp [hg1] | rfl) ?_
  refine Ose [(6, .bool (decide (n ≤ hi)))] ?_
  refine V_ret ?_
  exact X_return (.bool (decide (n ≤ hi))) rfl ⟨by congr 2; simp only [Bool.decide_and]; by_cases h1 : lo ≤ n <;> simp [h1] <;> omega, rfl⟩
 refine OI_eq [(0, nt n), (2, nt hi), (10, .bool false)] (by first | simp [hg1] | rfl) ?_
 refine Ose [(6, .bool false)] ?_
 refine V_ret ?_
 exact X_return (.bool false) rfl ⟨by congr 2; simp only [Bool.decide_and]; by_cases h1 : lo ≤ n <;> simp [h1] <;> omega, rfl⟩
set_option maxRecDepth 10000 in
theorem cdAcc_spec (n : Int) (w : World) : Calls Tryz.prog 83 #[nt n] w fun e w' => e = .returned (.bool (decide (0 ≤ n ∧ n ≤ 9))) ∧ w' = w := by
 refine enterV Tryz.func83 rfl [nt n] 5 rfl rfl rfl ?_
 refine Vr ?_
 refine On 1 [0] ?_
 refine Oer ?_
 refine On 1 [3] ?_
 refine Ok (kL 82 #[(.tmp 3), (.const (nt 0)), (.const (nt 9))] #[3, 3, 3]) 82 #[nt n, nt 0, nt 9] (some 4) (cdIn_spec n 0 9 _) ?_
 rintro _ w ⟨rfl, rfl⟩
 refine ⟨_, rfl, ?_⟩
 refine Ose [(2, .bool (decide ((0 : Int) ≤ n ∧ n ≤ 9)))] ?_
 refine V_ret ?_
 exact X_return (.bool (decide ((0 : Int) ≤ n ∧ n ≤ 9))) rfl ⟨rfl, rfl⟩
set_option maxRecDepth 10000 in
theorem isCall1_spec (D : Nat → Prop) (c : CA) (dp : Int) (bd : Nat) (w : World) (ok : CA → Bool) (hIH : ∀ D x w, RepIn D w x → Calls Tryz.prog 59 #[.agg x.cells.toArray, nt (dp + 1)] w fun e w' => e = .returned (.bool (ok x)) ∧ Keep none_ w w') (hrep : RepIn D w c) (hbd : Blk w bd [nt dp] 3) (hdp : -1000 ≤ dp ∧ dp ≤ 1000) : Calls Tryz.prog 84 #[.agg c.cells.toArray, pt bd] w fun e w' => e = .returned (.bool (!(ok c))) ∧ Keep none_ w w' := by
 have hK0 : Keep none_ w w := Keep.refl _ _
 have hzhK0 := Keep.size hK0
 refine enterV Tryz.func84 rfl [.agg (CA.cells c).toArray, pt bd] 9 rfl rfl rfl ?_
 refine Vr ?_
 refine OI_box 26 (.tmp 0) (.agg (CA.cells c).toArray) (CA.cells c) (some 2) (by kernel_rfl) (by kernel_rfl) rfl ?_
 intro b1 w1 e1 hb1 k1 z1
 have hsz2 := Keep.size k1
 replace hbd := hbd.k0 k1
 replace hrep := RepIn.keep hrep k1 nk
 replace hK0 := hK0.tn k1
 have hb1lt := hb1.lt
 refine On 2 [1, 2] ?_
 refine Oer ?_
 refine Oa 26 (.tmp 2) 0 (CA.cells c) (some 4) 4 hb1 (take_all (CA.len _)) (CA.len _) ?_
 refine Oc 3 (.tmp 1) 0 (nt dp) (some 5) hbd rfl ?_
 have hw3 : IntKind.i64.wrap (dp + 1) = dp + 1 := wrp
 refine Os 3 [(4, .agg (CA.cells c).toArray), (6, nt (IntKind.i64.wrap (dp + 1)))] ?_
 refine Oq (u := nt (IntKind.i64.wrap (dp + 1))) (v := nt (dp + 1)) 6 (by rw [hw3]) ?_
 refine Ok (kL 59 #[(.tmp 4), (.tmp 6)] #[26, 3]) 59 #[.agg (CA.cells c).toArray, nt (dp + 1)] (some 7) (hIH D c _ hrep) ?_
 rintro _ w4 ⟨rfl, hk5⟩
 refine ⟨_, rfl, ?_⟩
 have hsz6 := Keep.size hk5
 replace hbd := hbd.k0 hk5
 replace hb1 := hb1.k0 hk5
 replace hrep := RepIn.keep hrep hk5 nk
 replace hK0 := hK0.tn hk5
 refine Ose [(3, .bool (!(ok c)))] ?_
 refine V_ret ?_
 exact X_return (.bool (!(ok c))) rfl ⟨rfl, hK0⟩
set_option maxRecDepth 10000 in
theorem ixc_spec (D : Nat → Prop) (A : Option Addr) (cap : Nat) (kl : List CA) (dp : Int) (bd : Nat) (w : World) (ok : CA → Bool) (hIH : ∀ D x w, RepIn D w x → Calls Tryz.prog 59 #[.agg x.cells.toArray, nt (dp + 1)] w fun e w' => e = .returned (.bool (ok x)) ∧ Keep none_ w w') (hrep : RepL D w A cap kl) (hbd : Blk w bd [nt dp] 3) (hdp : -1000 ≤ dp ∧ dp ≤ 1000) (hn4 : kl.length ≤ 1000000) : Calls Tryz.prog 106 #[.slice A kl.length cap, .func (.func 84) #[] #[pt bd]] w fun e w' => e = .returned (nt (ixC ok 0 kl)) ∧ Keep none_ w w' := by
 have hA := hrep.1
 have hK0 : Keep none_ w w := Keep.refl _ _
 have hzhK0 := Keep.size hK0
 refine enterV Tryz.func106 rfl [.slice A kl.length cap, .func (.func 84) #[] #[pt bd]] 19 rfl rfl rfl ?_
 refine Vr ?_
 refine On 1 [0, 1] ?_
 refine Oe ?_
 refine V_seq ?_
 refine Vs [(0, .slice A kl.length cap), (1, .func (.func 84) #[] #[pt bd]), (7, nt (kl.length : Int)), (8, nt 0)] ?_
 refine V_block ?_
 refine V_pick [(0, .slice A kl.length cap), (1, .func (.func 84) #[] #[pt bd]), (7, nt (kl.length : Int)), (8, nt 0)] rfl ?_
 refine V_loop (fun k wI e => ∃ i : Nat, (k + i = kl.length) ∧ (ixC ok i (kl.drop i) = ixC ok 0 kl) ∧ Keep none_ w wI ∧ e = [(0, .slice A kl.length cap), (1, .func (.func 84) #[] #[pt bd]), (7, nt (kl.length : Int)), (8, nt (i : Int))]) kl.length ⟨0, rfl, rfl, Keep.refl _ _, rfl⟩ ?_
 rintro k2 w1 _ ⟨i, hki, hix, hk3, rfl⟩
 have hsz4 := Keep.size hk3
 replace hbd := hbd.k0 hk3
 replace hA := ArgT.keep0 hA hk3
 replace hrep := RepL.keep hrep hk3 nk
 replace hK0 := hK0.tn hk3
 have hzhk3 := Keep.size hk3
 refine Vs [(0, .slice A kl.length cap), (1, .func (.func 84) #[] #[pt bd]), (7, nt (kl.length : Int)), (8, nt (i : Int)), (9, .bool (decide ((i : Int) < (kl.length : Int))))] ?_
 refine V_seq ?_
 refine V_if ((i : Int) < (kl.length : Int)) (by kernel_rfl) (fun hc5 => ?_) (fun hc5 => ?_)
 ·
  refine V_skip ?_
  refine X_then ?_
  refine V_seq ?_
  refine V_block ?_
  refine Vr ?_
  refine On 2 [0, 1, 5, 7, 8] ?_
  refine Oer ?_
  refine Os 3 [(0, .slice A kl.length cap), (1, .func (.func 84) #[] #[pt bd]), (5, nt (i : Int)), (7, nt (kl.length : Int)), (8, nt (i : Int)), (11, .func (.func 84) #[] #[pt bd]), (12, .slice A kl.length cap), (13, nt (i : Int))] ?_
  obtain ⟨b6, o6, L6, rfl, hat6⟩ := ArgT.open_ hA (by first | omega | (simp only [List.length_map]; omega) | (simp; done) | (simp; omega))
  have hb6lt0 := ArgT.lt hA (by first | omega | (simp only [List.length_map]; omega) | (simp; done) | (simp; omega))
  have hb6lt := hat6.blk.lt
  refine Oi (b := b6) (o := o6) (len := kl.length) (cap := cap) (j := i) (some 14) 24 (.tmp 12) (.tmp 13) 26 4 48 .i64 ?_
  obtain ⟨x7, hx8⟩ := exAt (xs := kl) (i := i)
  refine OI_aggR 26 (.tmp 14) (o6 + i * 4) (CA.cells x7) (some 15) (by kernel_rfl) (by kernel_rfl) hat6.blk (m := 4) (by kernel_rfl) (AtR.elem' hat6 _ _ (es_at hx8)) (AtR.len hat6 (es_at hx8)) ?_
  refine Ok { callee := (Callee.value (Operand.tmp 11)), args := #[(Operand.tmp 15)], argTypes := #[26] } 84 #[.agg (CA.cells x7).toArray, pt bd] (some 16) (isCall1_spec D x7 dp bd _ ok hIH (hrep.2.2 x7 (List.mem_of_getElem? hx8)) hbd hdp) ?_
  rintro _ w9 ⟨rfl, hk10⟩
  refine ⟨_, rfl, ?_⟩
  have hsz11 := Keep.size hk10
  replace hbd := hbd.k0 hk10
  replace hat6 := hat6.keep hk10 id
  replace hrep := RepL.keep hrep hk10 nk
  replace hK0 := hK0.tn hk10
  replace hk3 := hk3.tn hk10
  refine Oe ?_
  refine V_ifb (!(ok x7)) (by kernel_rfl) (fun hc12 => ?_) (fun hc12 => ?_)
  ·
   refine Vs [(4, nt (i : Int))] ?_
   refine V_ret ?_
   refine X_ret_block ?_
   refine X_ret_then ?_
   refine X_ret_then ?_
   refine X_ret_block ?_
   refine X_ret_then ?_
   have h9 : ixC ok 0 kl = (i : Int) := by rw [← hix, ixC_drop hx8, if_neg (by simpa using hc12)]
   exact X_return (nt (i : Int)) rfl ⟨by rw [h9], hK0⟩
  refine V_skip ?_
  refine X_block ?_
  refine X_then ?_
  refine V_region ?_
  have hw13 : IntKind.i64.wrap ((i : Int) + 1) = ((i + 1 : Nat) : Int) := wrp
  refine Os 1 [(0, sl_ b6 o6 kl.length cap), (1, .func (.func 84) #[] #[pt bd]), (7, nt (kl.length : Int)), (18, nt (IntKind.i64.wrap ((i : Int) + 1)))] ?_
  refine Oq (u := nt (IntKind.i64.wrap ((i : Int) + 1))) (v := nt ((i + 1 : Nat) : Int)) 18 (by rw [hw13]) ?_
  refine Os 2 [(0, sl_ b6 o6 kl.length cap), (1, .func (.func 84) #[] #[pt bd]), (7, nt (kl.length : Int)), (8, nt ((i + 1 : Nat) : Int))] ?_
  refine OI_end rfl ?_
  exact V_again (k2 - 1) (by omega) [(0, sl_ b6 o6 kl.length cap), (1, .func (.func 84) #[] #[pt bd]), (7, nt (kl.length : Int)), (8, nt ((i + 1 : Nat) : Int))] rfl ⟨i + 1, by omega, by rw [← hix, ixC_drop hx8, if_pos (by simpa using hc12)], hk3, rfl⟩
 refine V_exit ?_
 refine X_exit_then ?_
 refine X_exit_then ?_
 refine X_exit_here ?_
 refine X_then ?_
 refine Vs [(4, nt (-1))] ?_
 refine V_ret ?_
 have he : i = kl.length := by omega
 have h9 : ixC ok 0 kl = -1 := by rw [← hix, he, List.drop_length]; rfl
 exact X_return (nt (-1)) rfl ⟨by rw [h9], hK0⟩
set_option maxRecDepth 10000 in
theorem ctc_spec (D : Nat → Prop) (A : Option Addr) (cap : Nat) (kl : List CA) (dp : Int) (bd : Nat) (w : World) (ok : CA → Bool) (hIH : ∀ D x w, RepIn D w x → Calls Tryz.prog 59 #[.agg x.cells.toArray, nt (dp + 1)] w fun e w' => e = .returned (.bool (ok x)) ∧ Keep none_ w w') (hrep : RepL D w A cap kl) (hbd : Blk w bd [nt dp] 3) (hdp : -1000 ≤ dp ∧ dp ≤ 1000) (hn4 : kl.length ≤ 1000000) : Calls Tryz.prog 85 #[.slice A kl.length cap, .func (.func 84) #[] #[pt bd]] w fun e w' => e = .returned (.bool (!(kl.all ok))) ∧ Keep none_ w w' := by
 have hA := hrep.1
 have hK0 : Keep none_ w w := Keep.refl _ _
 have hzhK0 := Keep.size hK0
 refine enterV Tryz.func85 rfl [.slice A kl.length cap, .func (.func 84) #[] #[pt bd]] 9 rfl rfl rfl ?_
 refine Vr ?_
 refine On 1 [0, 1] ?_
 refine Oer ?_
 refine On 2 [5, 6] ?_
 refine Ok (kL 106 #[(.tmp 5), (.tmp 6)] #[24, 83]) 106 #[.slice A kl.length cap, .func (.func 84) #[] #[pt bd]] (some 7) (ixc_spec D A cap kl dp bd _ ok hIH hrep hbd hdp hn4) ?_
 rintro _ w1 ⟨rfl, hk2⟩
 refine ⟨_, rfl, ?_⟩
 have hsz3 := Keep.size hk2
 replace hbd := hbd.k0 hk2
 replace hA := ArgT.keep0 hA hk2
 replace hrep := RepL.keep hrep hk2 nk
 replace hK0 := hK0.tn hk2
 refine Ose [(4, .bool (decide (ixC ok 0 kl ≥ 0)))] ?_
 refine V_ret ?_
 exact X_return (.bool (decide (ixC ok 0 kl ≥ 0))) rfl ⟨by rw [ixC_ge], hK0⟩
set_option maxRecDepth 10000 in
theorem isCall_step (D : Nat → Prop) (c : CA) (dp : Int) (w : World) (ok : CA → Bool) (hIH : dp < 3 → ∀ D x w, RepIn D w x → Calls Tryz.prog 59 #[.agg x.cells.toArray, nt (dp + 1)] w fun e w' => e = .returned (.bool (ok x)) ∧ Keep none_ w w') (hrep : RepIn D w c) (hdp : -1000 ≤ dp ∧ dp ≤ 1000) : Calls Tryz.prog 59 #[.agg c.cells.toArray, nt dp] w fun e w' => e = .returned (.bool (stepC (decide (dp < 3)) ok c)) ∧ Keep none_ w w' := by
 have hK0 : Keep none_ w w := Keep.refl _ _
 have hzhK0 := Keep.size hK0
 refine enterV Tryz.func59 rfl [.agg (CA.cells c).toArray, nt dp] 86 rfl rfl rfl ?_
 refine Vr ?_
 refine OI_box 26 (.tmp 0) (.agg (CA.cells c).toArray) (CA.cells c) (some 2) (by kernel_rfl) (by kernel_rfl) rfl ?_
 intro b1 w1 e1 hb1 k1 z1
 have hsz2 := Keep.size k1
 replace hrep := RepIn.keep hrep k1 nk
 replace hK0 := hK0.tn k1
 have hb1lt := hb1.lt
 refine OI_box 3 (.tmp 1) (nt dp) [nt dp] (some 3) (by kernel_rfl) (by kernel_rfl) (by kernel_rfl) ?_
 intro b3 w3 e3 hb3 k3 z3
 have hsz4 := Keep.size k3
 replace hb1 := hb1.k0 k3
 replace hrep := RepIn.keep hrep k3 nk
 replace hK0 := hK0.tn k3
 have hb3lt := hb3.lt
 refine On 3 [2, 3] ?_
 refine Oer ?_
 refine On 1 [2, 3, 7] ?_
 refine Oc 3 (.tmp 7) 0 (nt c.k) (some 8) hb1 rfl ?_
 refine Os 4 [(2, pt b1), (3, pt b3), (10, .bool (decide (c.k = 5)))] ?_
 by_cases hg5 : c.k = 5
 ·
  refine OI_eq [(2, pt b1), (3, pt b3), (10, .bool true)] (by first | rw [decide_eq_true hg5] | simp [hg5] | rfl) ?_
  refine On 10 [2, 3, 5] ?_
  refine Oe ?_
  refine V_seq ?_
  refine Vr ?_
  refine On 1 [2, 3, 5, 16] ?_
  refine Oc 3 (.tmp 16) 0 (nt c.k) (some 17) hb1 rfl ?_
  refine Oe ?_
  refine V_block ?_
  refine Vs [(2, pt b1), (3, pt b3), (5, .bool true), (17, nt c.k), (18, .bool (decide (c.k = 1)))] ?_
  refine V_if (c.k = 1) (by kernel_rfl) (fun hc6 => ?_) (fun hc6 => ?_)
  ·
   refine Vr ?_
   refine On 3 [2, 21, 22] ?_
   refine Oc 3 (.tmp 22) 1 (nt c.to) (some 23) hb1 rfl ?_
   refine Os 7 [(2, pt b1), (26, .bool (decide (c.to = 0)))] ?_
   by_cases hg7 : c.to = 0
   ·
    refine OI_eq [(2, pt b1), (26, .bool true)] (by first | rw [decide_eq_true hg7] | simp [hg7] | rfl) ?_
    refine On 8 [26, 27] ?_
    refine Oc 3 (.tmp 27) 2 (nt c.n) (some 28) hb1 rfl ?_
    refine Ok (kL 82 #[(.tmp 28), (.const (nt 0)), (.const (nt 1073741824))] #[3, 3, 3]) 82 #[nt c.n, nt 0, nt 1073741824] (some 29) (cdIn_spec c.n 0 1073741824 _) ?_
    rintro _ w3 ⟨rfl, rfl⟩
    refine ⟨_, rfl, ?_⟩
    refine Ose [(4, .bool (decide ((0 : Int) ≤ c.n ∧ c.n ≤ 1073741824)))] ?_
    refine V_ret ?_
    refine X_ret_block ?_
    refine X_ret_then ?_
    exact X_return (.bool (decide ((0 : Int) ≤ c.n ∧ c.n ≤ 1073741824))) rfl ⟨by congr 2; unfold stepC; simp_all <;> first | (intros; omega) | (intro h; simp_all), hK0⟩
   refine OI_eq [(2, pt b1), (26, .bool false)] (by first | rw [decide_eq_false hg7] | simp [hg7] | rfl) ?_
   refine Ose [(4, .bool false)] ?_
   refine V_ret ?_
   refine X_ret_block ?_
   refine X_ret_then ?_
   exact X_return (.bool false) rfl ⟨by congr 2; unfold stepC; simp_all <;> first | (intros; omega) | (intro h; simp_all), hK0⟩
  refine Vs [(2, pt b1), (3, pt b3), (5, .bool true), (17, nt c.k), (31, .bool (decide (c.k = 2)))] ?_
  refine V_if (c.k = 2) (by kernel_rfl) (fun hc11 => ?_) (fun hc11 => ?_)
  ·
   refine Vr ?_
   refine On 3 [2, 34, 35] ?_
   refine Oc 3 (.tmp 35) 1 (nt c.to) (some 36) hb1 rfl ?_
   refine Ok (kL 83 #[(.tmp 36)] #[3]) 83 #[nt c.to] (some 37) (cdAcc_spec c.to _) ?_
   rintro _ w3 ⟨rfl, rfl⟩
   refine ⟨_, rfl, ?_⟩
   refine Os 7 [(2, pt b1), (39, .bool (decide ((0 : Int) ≤ c.to ∧ c.to ≤ 9)))] ?_
   by_cases hg15 : (0 : Int) ≤ c.to ∧ c.to ≤ 9
   ·
    refine OI_eq [(2, pt b1), (39, .bool true)] (by first | rw [decide_eq_true hg15] | simp [hg15] | rfl) ?_
    refine On 8 [39, 40] ?_
    refine Oc 3 (.tmp 40) 2 (nt c.n) (some 41) hb1 rfl ?_
    refine Ok (kL 82 #[(.tmp 41), (.const (nt 0)), (.const (nt 1073741824))] #[3, 3, 3]) 82 #[nt c.n, nt 0, nt 1073741824] (some 42) (cdIn_spec c.n 0 1073741824 _) ?_
    rintro _ w3 ⟨rfl, rfl⟩
    refine ⟨_, rfl, ?_⟩
    refine Ose [(4, .bool (decide ((0 : Int) ≤ c.n ∧ c.n ≤ 1073741824)))] ?_
    refine V_ret ?_
    refine X_ret_block ?_
    refine X_ret_then ?_
    exact X_return (.bool (decide ((0 : Int) ≤ c.n ∧ c.n ≤ 1073741824))) rfl ⟨by congr 2; unfold stepC; simp_all <;> first | (intros; omega) | (intro h; simp_all), hK0⟩
   refine OI_eq [(2, pt b1), (39, .bool false)] (by first | rw [decide_eq_false hg15] | simp [hg15] | rfl) ?_
   refine Ose [(4, .bool false)] ?_
   refine V_ret ?_
   refine X_ret_block ?_
   refine X_ret_then ?_
   exact X_return (.bool false) rfl ⟨by congr 2; unfold stepC; simp_all <;> first | (intros; omega) | (intro h; simp_all), hK0⟩
  refine V_seq ?_
  refine Vs [(2, pt b1), (3, pt b3), (5, .bool true), (17, nt c.k), (44, .bool (decide (c.k = 3)))] ?_
  refine V_if (c.k = 3) (by kernel_rfl) (fun hc19 => ?_) (fun hc19 => ?_)
  ·
   refine V_skip ?_
   refine X_then ?_
   refine V_if (c.k = 3) (by kernel_rfl) (fun hc20 => ?_) (fun hc20 => ?_)
   ·
    refine Vr ?_
    refine On 3 [2, 48, 49] ?_
    refine Oc 3 (.tmp 49) 1 (nt c.to) (some 50) hb1 rfl ?_
    refine Os 7 [(2, pt b1), (53, .bool (decide (c.to = 0)))] ?_
    by_cases hg21 : c.to = 0
    ·
     refine OI_eq [(2, pt b1), (53, .bool true)] (by first | rw [decide_eq_true hg21] | simp [hg21] | rfl) ?_
     refine On 8 [53, 54] ?_
     refine Oc 3 (.tmp 54) 2 (nt c.n) (some 55) hb1 rfl ?_
     refine Ok (kL 82 #[(.tmp 55), (.const (nt 0)), (.const (nt 11))] #[3, 3, 3]) 82 #[nt c.n, nt 0, nt 11] (some 56) (cdIn_spec c.n 0 11 _) ?_
     rintro _ w3 ⟨rfl, rfl⟩
     refine ⟨_, rfl, ?_⟩
     refine Ose [(4, .bool (decide ((0 : Int) ≤ c.n ∧ c.n ≤ 11)))] ?_
     refine V_ret ?_
     refine X_ret_block ?_
     refine X_ret_then ?_
     exact X_return (.bool (decide ((0 : Int) ≤ c.n ∧ c.n ≤ 11))) rfl ⟨by congr 2; unfold stepC; simp_all <;> first | (intros; omega) | (intro h; simp_all), hK0⟩
    refine OI_eq [(2, pt b1), (53, .bool false)] (by first | rw [decide_eq_false hg21] | simp [hg21] | rfl) ?_
    refine Ose [(4, .bool false)] ?_
    refine V_ret ?_
    refine X_ret_block ?_
    refine X_ret_then ?_
    exact X_return (.bool false) rfl ⟨by congr 2; unfold stepC; simp_all <;> first | (intros; omega) | (intro h; simp_all), hK0⟩
   refine Vs [(2, pt b1), (3, pt b3), (58, .bool (decide (c.k = 5)))] ?_
   refine V_if (c.k = 5) (by kernel_rfl) (fun hc25 => ?_) (fun hc25 => ?_)
   ·
    refine Vr ?_
    refine On 2 [2, 3, 6] ?_
    refine Oer ?_
    refine Oc 3 (.tmp 3) 0 (nt dp) (some 61) hb3 rfl ?_
    refine Os 3 [(2, pt b1), (6, .func (.func 84) #[] #[pt b3]), (63, .bool (decide (dp < 3)))] ?_
    by_cases hg26 : dp < 3
    ·
     refine OI_eq [(2, pt b1), (6, .func (.func 84) #[] #[pt b3]), (63, .bool true)] (by first | rw [decide_eq_true hg26] | simp [hg26] | rfl) ?_
     refine On 4 [2, 6, 63, 64] ?_
     refine Oc 3 (.tmp 64) 1 (nt c.to) (some 65) hb1 rfl ?_
     refine Os 8 [(2, pt b1), (6, .func (.func 84) #[] #[pt b3]), (68, .bool (decide (c.to = 0)))] ?_
     by_cases hg27 : c.to = 0
     ·
      refine OI_eq [(2, pt b1), (6, .func (.func 84) #[] #[pt b3]), (68, .bool true)] (by first | rw [decide_eq_true hg27] | simp [hg27] | rfl) ?_
      refine On 9 [2, 6, 68, 69] ?_
      refine Oc 3 (.tmp 69) 2 (nt c.n) (some 70) hb1 rfl ?_
      refine Os 13 [(2, pt b1), (6, .func (.func 84) #[] #[pt b3]), (73, .bool (decide (c.n = 0)))] ?_
      by_cases hg28 : c.n = 0
      ·
       refine OI_eq [(2, pt b1), (6, .func (.func 84) #[] #[pt b3]), (73, .bool true)] (by first | rw [decide_eq_true hg28] | simp [hg28] | rfl) ?_
       refine On 14 [2, 6, 73, 74] ?_
       refine Oc 24 (.tmp 74) 3 (.slice c.A c.kids.length c.cap) (some 75) hb1 rfl ?_
       refine On 16 [2, 6, 73, 76] ?_
       refine Ok (kL 82 #[(.tmp 76), (.const (nt 1)), (.const (nt 4))] #[3, 3, 3]) 82 #[nt (c.kids.length : Int), nt 1, nt 4] (some 77) (cdIn_spec (c.kids.length : Int) 1 4 _) ?_
       rintro _ w3 ⟨rfl, rfl⟩
       refine ⟨_, rfl, ?_⟩
       refine Os 19 [(2, pt b1), (6, .func (.func 84) #[] #[pt b3]), (79, .bool (decide ((1 : Int) ≤ (c.kids.length : Int) ∧ (c.kids.length : Int) ≤ 4)))] ?_
       by_cases hg32 : (1 : Int) ≤ (c.kids.length : Int) ∧ (c.kids.length : Int) ≤ 4
       ·
        refine OI_eq [(2, pt b1), (6, .func (.func 84) #[] #[pt b3]), (79, .bool true)] (by first | rw [decide_eq_true hg32] | simp [hg32] | rfl) ?_
        refine On 20 [6, 79, 80] ?_
        refine Oc 24 (.tmp 80) 3 (.slice c.A c.kids.length c.cap) (some 81) hb1 rfl ?_
        refine On 22 [79, 81, 82] ?_
        refine Ok (kL 85 #[(.tmp 81), (.tmp 82)] #[24, 83]) 85 #[.slice c.A c.kids.length c.cap, .func (.func 84) #[] #[pt b3]] (some 83) (ctc_spec D c.A c.cap c.kids dp b3 _ ok (hIH (by omega)) hrep.l hb3 hdp (by omega)) ?_
        rintro _ w33 ⟨rfl, hk34⟩
        refine ⟨_, rfl, ?_⟩
        have hsz35 := Keep.size hk34
        replace hb1 := hb1.k0 hk34
        replace hb3 := hb3.k0 hk34
        replace hrep := RepIn.keep hrep hk34 nk
        replace hK0 := hK0.tn hk34
        refine Ose [(4, .bool (!(!(c.kids.all ok))))] ?_
        refine V_ret ?_
        refine X_ret_block ?_
        refine X_ret_then ?_
        exact X_return (.bool (!(!(c.kids.all ok)))) rfl ⟨by congr 2; unfold stepC; simp_all <;> first | (intros; omega) | (intro h; simp_all), hK0⟩
       refine OI_eq [(2, pt b1), (6, .func (.func 84) #[] #[pt b3]), (79, .bool false)] (by first | rw [decide_eq_false hg32] | simp [hg32] | rfl) ?_
       refine Ose [(4, .bool false)] ?_
       refine V_ret ?_
       refine X_ret_block ?_
       refine X_ret_then ?_
       exact X_return (.bool false) rfl ⟨by congr 2; unfold stepC; simp_all <;> first | (intros; omega) | (intro h; simp_all), hK0⟩
      refine OI_eq [(2, pt b1), (6, .func (.func 84) #[] #[pt b3]), (73, .bool false)] (by first | rw [decide_eq_false hg28] | simp [hg28] | rfl) ?_
      refine Ose [(4, .bool false)] ?_
      refine V_ret ?_
      refine X_ret_block ?_
      refine X_ret_then ?_
      exact X_return (.bool false) rfl ⟨by congr 2; unfold stepC; simp_all <;> first | (intros; omega) | (intro h; simp_all), hK0⟩
     refine OI_eq [(2, pt b1), (6, .func (.func 84) #[] #[pt b3]), (68, .bool false)] (by first | rw [decide_eq_false hg27] | simp [hg27] | rfl) ?_
     refine Ose [(4, .bool false)] ?_
     refine V_ret ?_
     refine X_ret_block ?_
     refine X_ret_then ?_
     exact X_return (.bool false) rfl ⟨by congr 2; unfold stepC; simp_all <;> first | (intros; omega) | (intro h; simp_all), hK0⟩
    refine OI_eq [(2, pt b1), (6, .func (.func 84) #[] #[pt b3]), (63, .bool false)] (by first | rw [decide_eq_false hg26] | simp [hg26] | rfl) ?_
    refine Ose [(4, .bool false)] ?_
    refine V_ret ?_
    refine X_ret_block ?_
    refine X_ret_then ?_
    exact X_return (.bool false) rfl ⟨by congr 2; unfold stepC; simp_all <;> first | (intros; omega) | (intro h; simp_all), hK0⟩
   refine V_skip ?_
   refine X_block ?_
   refine X_then ?_
   refine Vs [(4, .bool false)] ?_
   refine V_ret ?_
   exact X_return (.bool false) rfl ⟨by congr 2; unfold stepC; simp_all <;> first | (intros; omega) | (intro h; simp_all), hK0⟩
  refine V_region ?_
  refine Ose [(2, pt b1), (3, pt b3), (5, .bool true), (17, nt c.k), (44, .bool (decide (c.k = 4)))] ?_
  refine V_if (c.k = 4) (by kernel_rfl) (fun hc36 => ?_) (fun hc36 => ?_)
  ·
   refine Vr ?_
   refine On 3 [2, 48, 49] ?_
   refine Oc 3 (.tmp 49) 1 (nt c.to) (some 50) hb1 rfl ?_
   refine Os 7 [(2, pt b1), (53, .bool (decide (c.to = 0)))] ?_
   by_cases hg37 : c.to = 0
   ·
    refine OI_eq [(2, pt b1), (53, .bool true)] (by first | rw [decide_eq_true hg37] | simp [hg37] | rfl) ?_
    refine On 8 [53, 54] ?_
    refine Oc 3 (.tmp 54) 2 (nt c.n) (some 55) hb1 rfl ?_
    refine Ok (kL 82 #[(.tmp 55), (.const (nt 0)), (.const (nt 11))] #[3, 3, 3]) 82 #[nt c.n, nt 0, nt 11] (some 56) (cdIn_spec c.n 0 11 _) ?_
    rintro _ w3 ⟨rfl, rfl⟩
    refine ⟨_, rfl, ?_⟩
    refine Ose [(4, .bool (decide ((0 : Int) ≤ c.n ∧ c.n ≤ 11)))] ?_
    refine V_ret ?_
    refine X_ret_block ?_
    refine X_ret_then ?_
    exact X_return (.bool (decide ((0 : Int) ≤ c.n ∧ c.n ≤ 11))) rfl ⟨by congr 2; unfold stepC; simp_all <;> first | (intros; omega) | (intro h; simp_all), hK0⟩
   refine OI_eq [(2, pt b1), (53, .bool false)] (by first | rw [decide_eq_false hg37] | simp [hg37] | rfl) ?_
   refine Ose [(4, .bool false)] ?_
   refine V_ret ?_
   refine X_ret_block ?_
   refine X_ret_then ?_
   exact X_return (.bool false) rfl ⟨by congr 2; unfold stepC; simp_all <;> first | (intros; omega) | (intro h; simp_all), hK0⟩
  refine Vs [(2, pt b1), (3, pt b3), (58, .bool (decide (c.k = 5)))] ?_
  refine V_if (c.k = 5) (by kernel_rfl) (fun hc41 => ?_) (fun hc41 => ?_)
  ·
   refine Vr ?_
   refine On 2 [2, 3, 6] ?_
   refine Oer ?_
   refine Oc 3 (.tmp 3) 0 (nt dp) (some 61) hb3 rfl ?_
   refine Os 3 [(2, pt b1), (6, .func (.func 84) #[] #[pt b3]), (63, .bool (decide (dp < 3)))] ?_
   by_cases hg42 : dp < 3
   ·
    refine OI_eq [(2, pt b1), (6, .func (.func 84) #[] #[pt b3]), (63, .bool true)] (by first | rw [decide_eq_true hg42] | simp [hg42] | rfl) ?_
    refine On 4 [2, 6, 63, 64] ?_
    refine Oc 3 (.tmp 64) 1 (nt c.to) (some 65) hb1 rfl ?_
    refine Os 8 [(2, pt b1), (6, .func (.func 84) #[] #[pt b3]), (68, .bool (decide (c.to = 0)))] ?_
    by_cases hg43 : c.to = 0
    ·
     refine OI_eq [(2, pt b1), (6, .func (.func 84) #[] #[pt b3]), (68, .bool true)] (by first | rw [decide_eq_true hg43] | simp [hg43] | rfl) ?_
     refine On 9 [2, 6, 68, 69] ?_
     refine Oc 3 (.tmp 69) 2 (nt c.n) (some 70) hb1 rfl ?_
     refine Os 13 [(2, pt b1), (6, .func (.func 84) #[] #[pt b3]), (73, .bool (decide (c.n = 0)))] ?_
     by_cases hg44 : c.n = 0
     ·
      refine OI_eq [(2, pt b1), (6, .func (.func 84) #[] #[pt b3]), (73, .bool true)] (by first | rw [decide_eq_true hg44] | simp [hg44] | rfl) ?_
      refine On 14 [2, 6, 73, 74] ?_
      refine Oc 24 (.tmp 74) 3 (.slice c.A c.kids.length c.cap) (some 75) hb1 rfl ?_
      refine On 16 [2, 6, 73, 76] ?_
      refine Ok (kL 82 #[(.tmp 76), (.const (nt 1)), (.const (nt 4))] #[3, 3, 3]) 82 #[nt (c.kids.length : Int), nt 1, nt 4] (some 77) (cdIn_spec (c.kids.length : Int) 1 4 _) ?_
      rintro _ w3 ⟨rfl, rfl⟩
      refine ⟨_, rfl, ?_⟩
      refine Os 19 [(2, pt b1), (6, .func (.func 84) #[] #[pt b3]), (79, .bool (decide ((1 : Int) ≤ (c.kids.length : Int) ∧ (c.kids.length : Int) ≤ 4)))] ?_
      by_cases hg48 : (1 : Int) ≤ (c.kids.length : Int) ∧ (c.kids.length : Int) ≤ 4
      ·
       refine OI_eq [(2, pt b1), (6, .func (.func 84) #[] #[pt b3]), (79, .bool true)] (by first | rw [decide_eq_true hg48] | simp [hg48] | rfl) ?_
       refine On 20 [6, 79, 80] ?_
       refine Oc 24 (.tmp 80) 3 (.slice c.A c.kids.length c.cap) (some 81) hb1 rfl ?_
       refine On 22 [79, 81, 82] ?_
       refine Ok (kL 85 #[(.tmp 81), (.tmp 82)] #[24, 83]) 85 #[.slice c.A c.kids.length c.cap, .func (.func 84) #[] #[pt b3]] (some 83) (ctc_spec D c.A c.cap c.kids dp b3 _ ok (hIH (by omega)) hrep.l hb3 hdp (by omega)) ?_
       rintro _ w49 ⟨rfl, hk50⟩
       refine ⟨_, rfl, ?_⟩
       have hsz51 := Keep.size hk50
       replace hb1 := hb1.k0 hk50
       replace hb3 := hb3.k0 hk50
       replace hrep := RepIn.keep hrep hk50 nk
       replace hK0 := hK0.tn hk50
       refine Ose [(4, .bool (!(!(c.kids.all ok))))] ?_
       refine V_ret ?_
       refine X_ret_block ?_
       refine X_ret_then ?_
       exact X_return (.bool (!(!(c.kids.all ok)))) rfl ⟨by congr 2; unfold stepC; simp_all <;> first | (intros; omega) | (intro h; simp_all), hK0⟩
      refine OI_eq [(2, pt b1), (6, .func (.func 84) #[] #[pt b3]), (79, .bool false)] (by first | rw [decide_eq_false hg48] | simp [hg48] | rfl) ?_
      refine Ose [(4, .bool false)] ?_
      refine V_ret ?_
      refine X_ret_block ?_
      refine X_ret_then ?_
      exact X_return (.bool false) rfl ⟨by congr 2; unfold stepC; simp_all <;> first | (intros; omega) | (intro h; simp_all), hK0⟩
     refine OI_eq [(2, pt b1), (6, .func (.func 84) #[] #[pt b3]), (73, .bool false)] (by first | rw [decide_eq_false hg44] | simp [hg44] | rfl) ?_
     refine Ose [(4, .bool false)] ?_
     refine V_ret ?_
     refine X_ret_block ?_
     refine X_ret_then ?_
     exact X_return (.bool false) rfl ⟨by congr 2; unfold stepC; simp_all <;> first | (intros; omega) | (intro h; simp_all), hK0⟩
    refine OI_eq [(2, pt b1), (6, .func (.func 84) #[] #[pt b3]), (68, .bool false)] (by first | rw [decide_eq_false hg43] | simp [hg43] | rfl) ?_
    refine Ose [(4, .bool false)] ?_
    refine V_ret ?_
    refine X_ret_block ?_
    refine X_ret_then ?_
    exact X_return (.bool false) rfl ⟨by congr 2; unfold stepC; simp_all <;> first | (intros; omega) | (intro h; simp_all), hK0⟩
   refine OI_eq [(2, pt b1), (6, .func (.func 84) #[] #[pt b3]), (63, .bool false)] (by first | rw [decide_eq_false hg42] | simp [hg42] | rfl) ?_
   refine Ose [(4, .bool false)] ?_
   refine V_ret ?_
   refine X_ret_block ?_
   refine X_ret_then ?_
   exact X_return (.bool false) rfl ⟨by congr 2; unfold stepC; simp_all <;> first | (intros; omega) | (intro h; simp_all), hK0⟩
  refine V_skip ?_
  refine X_block ?_
  refine X_then ?_
  refine Vs [(4, .bool false)] ?_
  refine V_ret ?_
  exact X_return (.bool false) rfl ⟨by congr 2; unfold stepC; simp_all <;> first | (intros; omega) | (intro h; simp_all), hK0⟩
 refine OI_eq [(2, pt b1), (3, pt b3), (10, .bool false)] (by first | rw [decide_eq_false hg5] | simp [hg5] | rfl) ?_
 refine On 5 [2, 3, 10, 11] ?_
 refine Oc 24 (.tmp 11) 3 (.slice c.A c.kids.length c.cap) (some 12) hb1 rfl ?_
 refine On 10 [2, 3, 5] ?_
 refine Oe ?_
 refine V_seq ?_
 refine Vr ?_
 refine On 1 [2, 3, 5, 16] ?_
 refine Oc 3 (.tmp 16) 0 (nt c.k) (some 17) hb1 rfl ?_
 refine Oe ?_
 refine V_block ?_
 refine Vs [(2, pt b1), (3, pt b3), (5, .bool (decide ((c.kids.length : Int) = 0))), (17, nt c.k), (18, .bool (decide (c.k = 1)))] ?_
 refine V_if (c.k = 1) (by kernel_rfl) (fun hc52 => ?_) (fun hc52 => ?_)
 ·
  refine Vr ?_
  refine Os 2 [(2, pt b1), (21, .bool (decide ((c.kids.length : Int) = 0)))] ?_
  by_cases hg53 : (c.kids.length : Int) = 0
  ·
   refine OI_eq [(2, pt b1), (21, .bool true)] (by first | rw [decide_eq_true hg53] | simp [hg53] | rfl) ?_
   refine On 3 [2, 21, 22] ?_
   refine Oc 3 (.tmp 22) 1 (nt c.to) (some 23) hb1 rfl ?_
   refine Os 7 [(2, pt b1), (26, .bool (decide (c.to = 0)))] ?_
   by_cases hg54 : c.to = 0
   ·
    refine OI_eq [(2, pt b1), (26, .bool true)] (by first | rw [decide_eq_true hg54] | simp [hg54] | rfl) ?_
    refine On 8 [26, 27] ?_
    refine Oc 3 (.tmp 27) 2 (nt c.n) (some 28) hb1 rfl ?_
    refine Ok (kL 82 #[(.tmp 28), (.const (nt 0)), (.const (nt 1073741824))] #[3, 3, 3]) 82 #[nt c.n, nt 0, nt 1073741824] (some 29) (cdIn_spec c.n 0 1073741824 _) ?_
    rintro _ w3 ⟨rfl, rfl⟩
    refine ⟨_, rfl, ?_⟩
    refine Ose [(4, .bool (decide ((0 : Int) ≤ c.n ∧ c.n ≤ 1073741824)))] ?_
    refine V_ret ?_
    refine X_ret_block ?_
    refine X_ret_then ?_
    exact X_return (.bool (decide ((0 : Int) ≤ c.n ∧ c.n ≤ 1073741824))) rfl ⟨by congr 2; unfold stepC; simp_all <;> first | (intros; omega) | (intro h; simp_all), hK0⟩
   refine OI_eq [(2, pt b1), (26, .bool false)] (by first | rw [decide_eq_false hg54] | simp [hg54] | rfl) ?_
   refine Ose [(4, .bool false)] ?_
   refine V_ret ?_
   refine X_ret_block ?_
   refine X_ret_then ?_
   exact X_return (.bool false) rfl ⟨by congr 2; unfold stepC; simp_all <;> first | (intros; omega) | (intro h; simp_all), hK0⟩
  refine OI_eq [(2, pt b1), (21, .bool false)] (by first | rw [decide_eq_false hg53] | simp [hg53] | rfl) ?_
  refine Ose [(4, .bool false)] ?_
  refine V_ret ?_
  refine X_ret_block ?_
  refine X_ret_then ?_
  exact X_return (.bool false) rfl ⟨by congr 2; unfold stepC; simp_all <;> first | (intros; omega) | (intro h; simp_all), hK0⟩
 refine Vs [(2, pt b1), (3, pt b3), (5, .bool (decide ((c.kids.length : Int) = 0))), (17, nt c.k), (31, .bool (decide (c.k = 2)))] ?_
 refine V_if (c.k = 2) (by kernel_rfl) (fun hc58 => ?_) (fun hc58 => ?_)
 ·
  refine Vr ?_
  refine Os 2 [(2, pt b1), (34, .bool (decide ((c.kids.length : Int) = 0)))] ?_
  by_cases hg59 : (c.kids.length : Int) = 0
  ·
   refine OI_eq [(2, pt b1), (34, .bool true)] (by first | rw [decide_eq_true hg59] | simp [hg59] | rfl) ?_
   refine On 3 [2, 34, 35] ?_
   refine Oc 3 (.tmp 35) 1 (nt c.to) (some 36) hb1 rfl ?_
   refine Ok (kL 83 #[(.tmp 36)] #[3]) 83 #[nt c.to] (some 37) (cdAcc_spec c.to _) ?_
   rintro _ w3 ⟨rfl, rfl⟩
   refine ⟨_, rfl, ?_⟩
   refine Os 7 [(2, pt b1), (39, .bool (decide ((0 : Int) ≤ c.to ∧ c.to ≤ 9)))] ?_
   by_cases hg63 : (0 : Int) ≤ c.to ∧ c.to ≤ 9
   ·
    refine OI_eq [(2, pt b1), (39, .bool true)] (by first | rw [decide_eq_true hg63] | simp [hg63] | rfl) ?_
    refine On 8 [39, 40] ?_
    refine Oc 3 (.tmp 40) 2 (nt c.n) (some 41) hb1 rfl ?_
    refine Ok (kL 82 #[(.tmp 41), (.const (nt 0)), (.const (nt 1073741824))] #[3, 3, 3]) 82 #[nt c.n, nt 0, nt 1073741824] (some 42) (cdIn_spec c.n 0 1073741824 _) ?_
    rintro _ w3 ⟨rfl, rfl⟩
    refine ⟨_, rfl, ?_⟩
    refine Ose [(4, .bool (decide ((0 : Int) ≤ c.n ∧ c.n ≤ 1073741824)))] ?_
    refine V_ret ?_
    refine X_ret_block ?_
    refine X_ret_then ?_
    exact X_return (.bool (decide ((0 : Int) ≤ c.n ∧ c.n ≤ 1073741824))) rfl ⟨by congr 2; unfold stepC; simp_all <;> first | (intros; omega) | (intro h; simp_all), hK0⟩
   refine OI_eq [(2, pt b1), (39, .bool false)] (by first | rw [decide_eq_false hg63] | simp [hg63] | rfl) ?_
   refine Ose [(4, .bool false)] ?_
   refine V_ret ?_
   refine X_ret_block ?_
   refine X_ret_then ?_
   exact X_return (.bool false) rfl ⟨by congr 2; unfold stepC; simp_all <;> first | (intros; omega) | (intro h; simp_all), hK0⟩
  refine OI_eq [(2, pt b1), (34, .bool false)] (by first | rw [decide_eq_false hg59] | simp [hg59] | rfl) ?_
  refine Ose [(4, .bool false)] ?_
  refine V_ret ?_
  refine X_ret_block ?_
  refine X_ret_then ?_
  exact X_return (.bool false) rfl ⟨by congr 2; unfold stepC; simp_all <;> first | (intros; omega) | (intro h; simp_all), hK0⟩
 refine V_seq ?_
 refine Vs [(2, pt b1), (3, pt b3), (5, .bool (decide ((c.kids.length : Int) = 0))), (17, nt c.k), (44, .bool (decide (c.k = 3)))] ?_
 refine V_if (c.k = 3) (by kernel_rfl) (fun hc67 => ?_) (fun hc67 => ?_)
 ·
  refine V_skip ?_
  refine X_then ?_
  refine V_if (c.k = 3) (by kernel_rfl) (fun hc68 => ?_) (fun hc68 => ?_)
  ·
   refine Vr ?_
   refine Os 2 [(2, pt b1), (48, .bool (decide ((c.kids.length : Int) = 0)))] ?_
   by_cases hg69 : (c.kids.length : Int) = 0
   ·
    refine OI_eq [(2, pt b1), (48, .bool true)] (by first | rw [decide_eq_true hg69] | simp [hg69] | rfl) ?_
    refine On 3 [2, 48, 49] ?_
    refine Oc 3 (.tmp 49) 1 (nt c.to) (some 50) hb1 rfl ?_
    refine Os 7 [(2, pt b1), (53, .bool (decide (c.to = 0)))] ?_
    by_cases hg70 : c.to = 0
    ·
     refine OI_eq [(2, pt b1), (53, .bool true)] (by first | rw [decide_eq_true hg70] | simp [hg70] | rfl) ?_
     refine On 8 [53, 54] ?_
     refine Oc 3 (.tmp 54) 2 (nt c.n) (some 55) hb1 rfl ?_
     refine Ok (kL 82 #[(.tmp 55), (.const (nt 0)), (.const (nt 11))] #[3, 3, 3]) 82 #[nt c.n, nt 0, nt 11] (some 56) (cdIn_spec c.n 0 11 _) ?_
     rintro _ w3 ⟨rfl, rfl⟩
     refine ⟨_, rfl, ?_⟩
     refine Ose [(4, .bool (decide ((0 : Int) ≤ c.n ∧ c.n ≤ 11)))] ?_
     refine V_ret ?_
     refine X_ret_block ?_
     refine X_ret_then ?_
     exact X_return (.bool (decide ((0 : Int) ≤ c.n ∧ c.n ≤ 11))) rfl ⟨by congr 2; unfold stepC; simp_all <;> first | (intros; omega) | (intro h; simp_all), hK0⟩
    refine OI_eq [(2, pt b1), (53, .bool false)] (by first | rw [decide_eq_false hg70] | simp [hg70] | rfl) ?_
    refine Ose [(4, .bool false)] ?_
    refine V_ret ?_
    refine X_ret_block ?_
    refine X_ret_then ?_
    exact X_return (.bool false) rfl ⟨by congr 2; unfold stepC; simp_all <;> first | (intros; omega) | (intro h; simp_all), hK0⟩
   refine OI_eq [(2, pt b1), (48, .bool false)] (by first | rw [decide_eq_false hg69] | simp [hg69] | rfl) ?_
   refine Ose [(4, .bool false)] ?_
   refine V_ret ?_
   refine X_ret_block ?_
   refine X_ret_then ?_
   exact X_return (.bool false) rfl ⟨by congr 2; unfold stepC; simp_all <;> first | (intros; omega) | (intro h; simp_all), hK0⟩
  refine Vs [(2, pt b1), (3, pt b3), (58, .bool (decide (c.k = 5)))] ?_
  refine V_if (c.k = 5) (by kernel_rfl) (fun hc74 => ?_) (fun hc74 => ?_)
  ·
   refine Vr ?_
   refine On 2 [2, 3, 6] ?_
   refine Oer ?_
   refine Oc 3 (.tmp 3) 0 (nt dp) (some 61) hb3 rfl ?_
   refine Os 3 [(2, pt b1), (6, .func (.func 84) #[] #[pt b3]), (63, .bool (decide (dp < 3)))] ?_
   by_cases hg75 : dp < 3
   ·
    refine OI_eq [(2, pt b1), (6, .func (.func 84) #[] #[pt b3]), (63, .bool true)] (by first | rw [decide_eq_true hg75] | simp [hg75] | rfl) ?_
    refine On 4 [2, 6, 63, 64] ?_
    refine Oc 3 (.tmp 64) 1 (nt c.to) (some 65) hb1 rfl ?_
    refine Os 8 [(2, pt b1), (6, .func (.func 84) #[] #[pt b3]), (68, .bool (decide (c.to = 0)))] ?_
    by_cases hg76 : c.to = 0
    ·
     refine OI_eq [(2, pt b1), (6, .func (.func 84) #[] #[pt b3]), (68, .bool true)] (by first | rw [decide_eq_true hg76] | simp [hg76] | rfl) ?_
     refine On 9 [2, 6, 68, 69] ?_
     refine Oc 3 (.tmp 69) 2 (nt c.n) (some 70) hb1 rfl ?_
     refine Os 13 [(2, pt b1), (6, .func (.func 84) #[] #[pt b3]), (73, .bool (decide (c.n = 0)))] ?_
     by_cases hg77 : c.n = 0
     ·
      refine OI_eq [(2, pt b1), (6, .func (.func 84) #[] #[pt b3]), (73, .bool true)] (by first | rw [decide_eq_true hg77] | simp [hg77] | rfl) ?_
      refine On 14 [2, 6, 73, 74] ?_
      refine Oc 24 (.tmp 74) 3 (.slice c.A c.kids.length c.cap) (some 75) hb1 rfl ?_
      refine On 16 [2, 6, 73, 76] ?_
      refine Ok (kL 82 #[(.tmp 76), (.const (nt 1)), (.const (nt 4))] #[3, 3, 3]) 82 #[nt (c.kids.length : Int), nt 1, nt 4] (some 77) (cdIn_spec (c.kids.length : Int) 1 4 _) ?_
      rintro _ w3 ⟨rfl, rfl⟩
      refine ⟨_, rfl, ?_⟩
      refine Os 19 [(2, pt b1), (6, .func (.func 84) #[] #[pt b3]), (79, .bool (decide ((1 : Int) ≤ (c.kids.length : Int) ∧ (c.kids.length : Int) ≤ 4)))] ?_
      by_cases hg81 : (1 : Int) ≤ (c.kids.length : Int) ∧ (c.kids.length : Int) ≤ 4
      ·
       refine OI_eq [(2, pt b1), (6, .func (.func 84) #[] #[pt b3]), (79, .bool true)] (by first | rw [decide_eq_true hg81] | simp [hg81] | rfl) ?_
       refine On 20 [6, 79, 80] ?_
       refine Oc 24 (.tmp 80) 3 (.slice c.A c.kids.length c.cap) (some 81) hb1 rfl ?_
       refine On 22 [79, 81, 82] ?_
       refine Ok (kL 85 #[(.tmp 81), (.tmp 82)] #[24, 83]) 85 #[.slice c.A c.kids.length c.cap, .func (.func 84) #[] #[pt b3]] (some 83) (ctc_spec D c.A c.cap c.kids dp b3 _ ok (hIH (by omega)) hrep.l hb3 hdp (by omega)) ?_
       rintro _ w82 ⟨rfl, hk83⟩
       refine ⟨_, rfl, ?_⟩
       have hsz84 := Keep.size hk83
       replace hb1 := hb1.k0 hk83
       replace hb3 := hb3.k0 hk83
       replace hrep := RepIn.keep hrep hk83 nk
       replace hK0 := hK0.tn hk83
       refine Ose [(4, .bool (!(!(c.kids.all ok))))] ?_
       refine V_ret ?_
       refine X_ret_block ?_
       refine X_ret_then ?_
       exact X_return (.bool (!(!(c.kids.all ok)))) rfl ⟨by congr 2; unfold stepC; simp_all <;> first | (intros; omega) | (intro h; simp_all), hK0⟩
      refine OI_eq [(2, pt b1), (6, .func (.func 84) #[] #[pt b3]), (79, .bool false)] (by first | rw [decide_eq_false hg81] | simp [hg81] | rfl) ?_
      refine Ose [(4, .bool false)] ?_
      refine V_ret ?_
      refine X_ret_block ?_
      refine X_ret_then ?_
      exact X_return (.bool false) rfl ⟨by congr 2; unfold stepC; simp_all <;> first | (intros; omega) | (intro h; simp_all), hK0⟩
     refine OI_eq [(2, pt b1), (6, .func (.func 84) #[] #[pt b3]), (73, .bool false)] (by first | rw [decide_eq_false hg77] | simp [hg77] | rfl) ?_
     refine Ose [(4, .bool false)] ?_
     refine V_ret ?_
     refine X_ret_block ?_
     refine X_ret_then ?_
     exact X_return (.bool false) rfl ⟨by congr 2; unfold stepC; simp_all <;> first | (intros; omega) | (intro h; simp_all), hK0⟩
    refine OI_eq [(2, pt b1), (6, .func (.func 84) #[] #[pt b3]), (68, .bool false)] (by first | rw [decide_eq_false hg76] | simp [hg76] | rfl) ?_
    refine Ose [(4, .bool false)] ?_
    refine V_ret ?_
    refine X_ret_block ?_
    refine X_ret_then ?_
    exact X_return (.bool false) rfl ⟨by congr 2; unfold stepC; simp_all <;> first | (intros; omega) | (intro h; simp_all), hK0⟩
   refine OI_eq [(2, pt b1), (6, .func (.func 84) #[] #[pt b3]), (63, .bool false)] (by first | rw [decide_eq_false hg75] | simp [hg75] | rfl) ?_
   refine Ose [(4, .bool false)] ?_
   refine V_ret ?_
   refine X_ret_block ?_
   refine X_ret_then ?_
   exact X_return (.bool false) rfl ⟨by congr 2; unfold stepC; simp_all <;> first | (intros; omega) | (intro h; simp_all), hK0⟩
  refine V_skip ?_
  refine X_block ?_
  refine X_then ?_
  refine Vs [(4, .bool false)] ?_
  refine V_ret ?_
  exact X_return (.bool false) rfl ⟨by congr 2; unfold stepC; simp_all <;> first | (intros; omega) | (intro h; simp_all), hK0⟩
 refine V_region ?_
 refine Ose [(2, pt b1), (3, pt b3), (5, .bool (decide ((c.kids.length : Int) = 0))), (17, nt c.k), (44, .bool (decide (c.k = 4)))] ?_
 refine V_if (c.k = 4) (by kernel_rfl) (fun hc85 => ?_) (fun hc85 => ?_)
 ·
  refine Vr ?_
  refine Os 2 [(2, pt b1), (48, .bool (decide ((c.kids.length : Int) = 0)))] ?_
  by_cases hg86 : (c.kids.length : Int) = 0
  ·
   refine OI_eq [(2, pt b1), (48, .bool true)] (by first | rw [decide_eq_true hg86] | simp [hg86] | rfl) ?_
   refine On 3 [2, 48, 49] ?_
   refine Oc 3 (.tmp 49) 1 (nt c.to) (some 50) hb1 rfl ?_
   refine Os 7 [(2, pt b1), (53, .bool (decide (c.to = 0)))] ?_
   by_cases hg87 : c.to = 0
   ·
    refine OI_eq [(2, pt b1), (53, .bool true)] (by first | rw [decide_eq_true hg87] | simp [hg87] | rfl) ?_
    refine On 8 [53, 54] ?_
    refine Oc 3 (.tmp 54) 2 (nt c.n) (some 55) hb1 rfl ?_
    refine Ok (kL 82 #[(.tmp 55), (.const (nt 0)), (.const (nt 11))] #[3, 3, 3]) 82 #[nt c.n, nt 0, nt 11] (some 56) (cdIn_spec c.n 0 11 _) ?_
    rintro _ w3 ⟨rfl, rfl⟩
    refine ⟨_, rfl, ?_⟩
    refine Ose [(4, .bool (decide ((0 : Int) ≤ c.n ∧ c.n ≤ 11)))] ?_
    refine V_ret ?_
    refine X_ret_block ?_
    refine X_ret_then ?_
    exact X_return (.bool (decide ((0 : Int) ≤ c.n ∧ c.n ≤ 11))) rfl ⟨by congr 2; unfold stepC; simp_all <;> first | (intros; omega) | (intro h; simp_all), hK0⟩
   refine OI_eq [(2, pt b1), (53, .bool false)] (by first | rw [decide_eq_false hg87] | simp [hg87] | rfl) ?_
   refine Ose [(4, .bool false)] ?_
   refine V_ret ?_
   refine X_ret_block ?_
   refine X_ret_then ?_
   exact X_return (.bool false) rfl ⟨by congr 2; unfold stepC; simp_all <;> first | (intros; omega) | (intro h; simp_all), hK0⟩
  refine OI_eq [(2, pt b1), (48, .bool false)] (by first | rw [decide_eq_false hg86] | simp [hg86] | rfl) ?_
  refine Ose [(4, .bool false)] ?_
  refine V_ret ?_
  refine X_ret_block ?_
  refine X_ret_then ?_
  exact X_return (.bool false) rfl ⟨by congr 2; unfold stepC; simp_all <;> first | (intros; omega) | (intro h; simp_all), hK0⟩
 refine Vs [(2, pt b1), (3, pt b3), (58, .bool (decide (c.k = 5)))] ?_
 refine V_if (c.k = 5) (by kernel_rfl) (fun hc91 => ?_) (fun hc91 => ?_)
 ·
  refine Vr ?_
  refine On 2 [2, 3, 6] ?_
  refine Oer ?_
  refine Oc 3 (.tmp 3) 0 (nt dp) (some 61) hb3 rfl ?_
  refine Os 3 [(2, pt b1), (6, .func (.func 84) #[] #[pt b3]), (63, .bool (decide (dp < 3)))] ?_
  by_cases hg92 : dp < 3
  ·
   refine OI_eq [(2, pt b1), (6, .func (.func 84) #[] #[pt b3]), (63, .bool true)] (by first | rw [decide_eq_true hg92] | simp [hg92] | rfl) ?_
   refine On 4 [2, 6, 63, 64] ?_
   refine Oc 3 (.tmp 64) 1 (nt c.to) (some 65) hb1 rfl ?_
   refine Os 8 [(2, pt b1), (6, .func (.func 84) #[] #[pt b3]), (68, .bool (decide (c.to = 0)))] ?_
   by_cases hg93 : c.to = 0
   ·
    refine OI_eq [(2, pt b1), (6, .func (.func 84) #[] #[pt b3]), (68, .bool true)] (by first | rw [decide_eq_true hg93] | simp [hg93] | rfl) ?_
    refine On 9 [2, 6, 68, 69] ?_
    refine Oc 3 (.tmp 69) 2 (nt c.n) (some 70) hb1 rfl ?_
    refine Os 13 [(2, pt b1), (6, .func (.func 84) #[] #[pt b3]), (73, .bool (decide (c.n = 0)))] ?_
    by_cases hg94 : c.n = 0
    ·
     refine OI_eq [(2, pt b1), (6, .func (.func 84) #[] #[pt b3]), (73, .bool true)] (by first | rw [decide_eq_true hg94] | simp [hg94] | rfl) ?_
     refine On 14 [2, 6, 73, 74] ?_
     refine Oc 24 (.tmp 74) 3 (.slice c.A c.kids.length c.cap) (some 75) hb1 rfl ?_
     refine On 16 [2, 6, 73, 76] ?_
     refine Ok (kL 82 #[(.tmp 76), (.const (nt 1)), (.const (nt 4))] #[3, 3, 3]) 82 #[nt (c.kids.length : Int), nt 1, nt 4] (some 77) (cdIn_spec (c.kids.length : Int) 1 4 _) ?_
     rintro _ w3 ⟨rfl, rfl⟩
     refine ⟨_, rfl, ?_⟩
     refine Os 19 [(2, pt b1), (6, .func (.func 84) #[] #[pt b3]), (79, .bool (decide ((1 : Int) ≤ (c.kids.length : Int) ∧ (c.kids.length : Int) ≤ 4)))] ?_
     by_cases hg98 : (1 : Int) ≤ (c.kids.length : Int) ∧ (c.kids.length : Int) ≤ 4
     ·
      refine OI_eq [(2, pt b1), (6, .func (.func 84) #[] #[pt b3]), (79, .bool true)] (by first | rw [decide_eq_true hg98] | simp [hg98] | rfl) ?_
      refine On 20 [6, 79, 80] ?_
      refine Oc 24 (.tmp 80) 3 (.slice c.A c.kids.length c.cap) (some 81) hb1 rfl ?_
      refine On 22 [79, 81, 82] ?_
      refine Ok (kL 85 #[(.tmp 81), (.tmp 82)] #[24, 83]) 85 #[.slice c.A c.kids.length c.cap, .func (.func 84) #[] #[pt b3]] (some 83) (ctc_spec D c.A c.cap c.kids dp b3 _ ok (hIH (by omega)) hrep.l hb3 hdp (by omega)) ?_
      rintro _ w99 ⟨rfl, hk100⟩
      refine ⟨_, rfl, ?_⟩
      have hsz101 := Keep.size hk100
      replace hb1 := hb1.k0 hk100
      replace hb3 := hb3.k0 hk100
      replace hrep := RepIn.keep hrep hk100 nk
      replace hK0 := hK0.tn hk100
      refine Ose [(4, .bool (!(!(c.kids.all ok))))] ?_
      refine V_ret ?_
      refine X_ret_block ?_
      refine X_ret_then ?_
      exact X_return (.bool (!(!(c.kids.all ok)))) rfl ⟨by congr 2; unfold stepC; simp_all <;> first | (intros; omega) | (intro h; simp_all), hK0⟩
     refine OI_eq [(2, pt b1), (6, .func (.func 84) #[] #[pt b3]), (79, .bool false)] (by first | rw [decide_eq_false hg98] | simp [hg98] | rfl) ?_
     refine Ose [(4, .bool false)] ?_
     refine V_ret ?_
     refine X_ret_block ?_
     refine X_ret_then ?_
     exact X_return (.bool false) rfl ⟨by congr 2; unfold stepC; simp_all <;> first | (intros; omega) | (intro h; simp_all), hK0⟩
    refine OI_eq [(2, pt b1), (6, .func (.func 84) #[] #[pt b3]), (73, .bool false)] (by first | rw [decide_eq_false hg94] | simp [hg94] | rfl) ?_
    refine Ose [(4, .bool false)] ?_
    refine V_ret ?_
    refine X_ret_block ?_
    refine X_ret_then ?_
    exact X_return (.bool false) rfl ⟨by congr 2; unfold stepC; simp_all <;> first | (intros; omega) | (intro h; simp_all), hK0⟩
   refine OI_eq [(2, pt b1), (6, .func (.func 84) #[] #[pt b3]), (68, .bool false)] (by first | rw [decide_eq_false hg93] | simp [hg93] | rfl) ?_
   refine Ose [(4, .bool false)] ?_
   refine V_ret ?_
   refine X_ret_block ?_
   refine X_ret_then ?_
   exact X_return (.bool false) rfl ⟨by congr 2; unfold stepC; simp_all <;> first | (intros; omega) | (intro h; simp_all), hK0⟩
  refine OI_eq [(2, pt b1), (6, .func (.func 84) #[] #[pt b3]), (63, .bool false)] (by first | rw [decide_eq_false hg92] | simp [hg92] | rfl) ?_
  refine Ose [(4, .bool false)] ?_
  refine V_ret ?_
  refine X_ret_block ?_
  refine X_ret_then ?_
  exact X_return (.bool false) rfl ⟨by congr 2; unfold stepC; simp_all <;> first | (intros; omega) | (intro h; simp_all), hK0⟩
 refine V_skip ?_
 refine X_block ?_
 refine X_then ?_
 refine Vs [(4, .bool false)] ?_
 refine V_ret ?_
 exact X_return (.bool false) rfl ⟨by congr 2; unfold stepC; simp_all <;> first | (intros; omega) | (intro h; simp_all), hK0⟩
theorem isCall_spec : ∀ (f : Nat), f ≤ 3 → ∀ (D : Nat → Prop) (c : CA) (w : World), RepIn D w c → Calls Tryz.prog 59 #[.agg c.cells.toArray, nt (3 - (f : Int))] w fun e w' => e = .returned (.bool (okCA f c)) ∧ Keep none_ w w'
  | 0, _, D, c, w, h => isCall_step D c 3 w (fun _ => false) (fun h => by omega) h (by omega)
  | f + 1, hf, D, c, w, h => by
    have h1 := isCall_step D c (3 - ((f + 1 : Nat) : Int)) w (okCA f) (fun _ D x w hx => by
      rw [show (3 - ((f + 1 : Nat) : Int) + 1) = 3 - (f : Int) by omega]; exact isCall_spec f (by omega) D x w hx) h (by omega)
    rw [decide_eq_true (by omega : 3 - ((f + 1 : Nat) : Int) < 3)] at h1
    exact h1
theorem isCall_top (D : Nat → Prop) (c : CA) (w : World) (h : RepIn D w c) : Calls Tryz.prog 59 #[.agg c.cells.toArray, nt 0] w fun e w' => e = .returned (.bool (okCA 3 c)) ∧ Keep none_ w w' := isCall_spec 3 (by omega) D c w h
set_option maxRecDepth 10000 in
theorem isC_spec (D : Nat → Prop) (c : CA) (w : World) (hrep : RepIn D w c) : Calls Tryz.prog 27 #[.agg c.cells.toArray] w fun e w' => e = .returned (.bool (okCA 3 c)) ∧ Keep none_ w w' := by
 have hK0 : Keep none_ w w := Keep.refl _ _
 have hzhK0 := Keep.size hK0
 refine enterV Tryz.func27 rfl [.agg (CA.cells c).toArray] 5 rfl rfl rfl ?_
 refine Vr ?_
 refine OI_box 26 (.tmp 0) (.agg (CA.cells c).toArray) (CA.cells c) (some 1) (by kernel_rfl) (by kernel_rfl) rfl ?_
 intro b1 w1 e1 hb1 k1 z1
 have hsz2 := Keep.size k1
 replace hrep := RepIn.keep hrep k1 nk
 replace hK0 := hK0.tn k1
 have hb1lt := hb1.lt
 refine On 2 [1] ?_
 refine Oer ?_
 refine Oa 26 (.tmp 1) 0 (CA.cells c) (some 3) 4 hb1 (take_all (CA.len _)) (CA.len _) ?_
 refine Ok (kL 59 #[(.tmp 3), (.const (nt 0))] #[26, 3]) 59 #[.agg (CA.cells c).toArray, nt 0] (some 4) (isCall_top D c _ hrep) ?_
 rintro _ w3 ⟨rfl, hk4⟩
 refine ⟨_, rfl, ?_⟩
 have hsz5 := Keep.size hk4
 replace hb1 := hb1.k0 hk4
 replace hrep := RepIn.keep hrep hk4 nk
 replace hK0 := hK0.tn hk4
 refine Ose [(2, .bool (okCA 3 c))] ?_
 refine V_ret ?_
 exact X_return (.bool (okCA 3 c)) rfl ⟨rfl, hK0⟩
end Go.Al

namespace Go.Al
open Go Go.RowKit Go.Proofs
section
variable {H : Type} {enc : TypeId × Value → H} {P : Program} {w : World}
theorem read_sliceQ {t e : TypeId} {sz fuel : Nat} {A : Option Addr} {len cap : Nat} {y : DataW H × List MemPlace} {Q : List Value → Prop} (ht : P.underlying t = some (.slice e)) (hc : P.cellsOf e = sz) (hk0 : 0 < sz)
    (h : DataW.trod enc P w 0 (fun _ => true) true fuel t [.slice A len cap] = some y) (hQ : ∀ n cs z, n < fuel → DataW.trod enc P w 0 (fun _ => true) true n e cs = some z → cs.length = sz ∧ Q cs) :
    ∃ xs : List (List Value), xs.length = len ∧ (∀ x ∈ xs, Q x) ∧ ArgT w sz id A cap xs ∧ len ≤ cap ∧ cap ≤ maxLen := by
  rcases DataW.trod_slice ht h with ⟨hcs, _⟩ | ⟨a, len', cap', elems, rest, n, hfu, hcs, _, _, hl, hm, hlen, hel, _, _⟩
  · simp at hcs
    obtain ⟨rfl, rfl, rfl⟩ := hcs
    exact ⟨[], rfl, fun x hx => (by cases hx), .inl rfl, Nat.le_refl _, Nat.zero_le _⟩
  · simp at hcs
    obtain ⟨rfl, rfl, rfl⟩ := hcs
    rcases Nat.eq_zero_or_pos len with h0 | h0
    · subst h0
      exact ⟨[], rfl, fun x hx => (by cases hx), .inl rfl, hl, hm⟩
    have hx : ∀ i, i < len → ∃ cs, w.cells? 0 (a.add (i * sz)) sz = some cs ∧ cs.length = sz ∧ Q cs := by
      intro i hi
      have h1 := hel i hi
      rw [List.getElem?_eq_getElem (by omega), hc] at h1
      cases h2 : w.cells? 0 (a.add (i * sz)) sz with
      | none => rw [h2] at h1; cases h1
      | some cs =>
        rw [h2] at h1
        exact ⟨cs, rfl, hQ n cs _ (by omega) h1⟩
    obtain ⟨V, hV⟩ : ∃ V : Nat → List Value, ∀ i, i < len → w.cells? 0 (a.add (i * sz)) sz = some (V i) ∧ (V i).length = sz ∧ Q (V i) :=
      ⟨fun i => if h : i < len then Classical.choose (hx i h) else [], fun i hi => by simp only [hi, dif_pos]; exact Classical.choose_spec (hx i hi)⟩
    refine ⟨(List.range len).map V, by simp, ?_, ?_, hl, hm⟩
    · intro x hx
      obtain ⟨i, hi, rfl⟩ := List.mem_map.1 hx
      exact (hV i (List.mem_range.1 hi)).2.2
    · right
      obtain ⟨hc0, _⟩ := hV 0 h0
      obtain ⟨_, hl0, hcell⟩ := World.cells?_some hc0
      have h00 := hcell 0 hk0
      rw [Nat.zero_mul] at h00
      have hadd : (a.add 0).add 0 = a := by simp [Addr.add]
      rw [hadd] at h00
      have hsome : ∃ v, w.cell? a = some v := by rw [h00]; exact ⟨_, List.getElem?_eq_getElem (by omega)⟩
      obtain ⟨v, hv⟩ := hsome
      obtain ⟨b, o, sp⟩ := a
      unfold World.cell? at hv
      simp only at hv
      split at hv
      · rename_i c T f hb
        split at hv
        · cases hv
        · rename_i hsp
          obtain rfl : sp = none := by cases sp <;> simp_all
          refine ⟨b, o, c.toList, rfl, ⟨⟨T, f, by simpa using hb⟩, ?_, ?_⟩⟩
          · intro i e he
            simp only [List.map_id, List.getElem?_map] at he
            obtain ⟨j, hj, rfl⟩ := Option.map_eq_some_iff.1 he
            obtain ⟨hlt, rfl⟩ := List.getElem?_eq_some_iff.1 hj
            simp only [List.length_range] at hlt
            simp only [List.getElem_range]
            obtain ⟨_, hli, hci⟩ := World.cells?_some (hV i hlt).1
            apply List.ext_getElem?
            intro q
            rw [List.getElem?_take]
            split
            · rename_i hq
              have := hci q hq
              rw [add_plain, add_plain] at this
              rw [← this, List.getElem?_drop]
              simp [World.cell?, hb]
            · rename_i hq
              rw [List.getElem?_eq_none (by omega)]
          · intro e he
            simp only [List.map_id] at he
            obtain ⟨i, hi, rfl⟩ := List.mem_map.1 he
            exact (hV i (List.mem_range.1 hi)).2.1
      · cases hv
end
theorem lift_Q {α : Type} {f : α → List Value} {R : α → Prop} : ∀ xs : List (List Value), (∀ x ∈ xs, ∃ y, f y = x ∧ R y) → ∃ ys : List α, ys.map f = xs ∧ ∀ y ∈ ys, R y
  | [], _ => ⟨[], rfl, fun y hy => (by cases hy)⟩
  | x :: xs, h => by
    obtain ⟨y, hy, hr⟩ := h x (List.mem_cons_self ..)
    obtain ⟨ys, hys, hrs⟩ := lift_Q xs (fun z hz => h z (List.mem_cons_of_mem _ hz))
    refine ⟨y :: ys, by simp [hy, hys], fun z hz => ?_⟩
    rcases List.mem_cons.1 hz with rfl | hz
    · exact hr
    · exact hrs z hz
abbrev Bel (w : World) : Nat → Prop := fun q => q < w.heap.size
inductive CAok : CA → Prop
  | mk {c : CA} (h : c.kids.length ≤ maxLen) (hk : ∀ x ∈ c.kids, CAok x) : CAok c
theorem CAok.l {c : CA} (h : CAok c) : c.kids.length ≤ maxLen ∧ ∀ x ∈ c.kids, CAok x := by
  cases h with
  | mk h hk => exact ⟨h, hk⟩
set_option maxRecDepth 10000 in
theorem read_call {H : Type} {enc : TypeId × Value → H} {w : World} : ∀ (m : Nat) (cs : List Value) (y : DataW H × List MemPlace), DataW.trod enc Tryz.prog w 0 (fun _ => true) true m 26 cs = some y → ∃ c : CA, c.cells = cs ∧ RepIn (Bel w) w c ∧ CAok c
  | m, cs, y, h => by
    obtain ⟨xs, n, hm, _, hlen, hxl, hf⟩ := DataW.trod_struct Tryz.underlying26 h
    have hc4 : Tryz.prog.cellsOf 26 = 4 := by kernel_rfl
    have hc1 : Tryz.prog.cellsOf 3 = 1 := by kernel_rfl
    have hcs : Tryz.prog.cellsOf 24 = 1 := by kernel_rfl
    have hl4 : cs.length = 4 := hlen.trans hc4
    match cs, hl4 with
    | [v1, v2, v3, v4], _ =>
      have g0 : DataW.trod enc Tryz.prog w 0 (fun _ => true) true n 3 ([v1, v2, v3, v4].take (Tryz.prog.cellsOf 3)) = xs[0]? := hf 0 _ rfl
      have g1 : DataW.trod enc Tryz.prog w 0 (fun _ => true) true n 3 ([v2, v3, v4].take (Tryz.prog.cellsOf 3)) = xs[1]? := hf 1 _ rfl
      have g2 : DataW.trod enc Tryz.prog w 0 (fun _ => true) true n 3 ([v3, v4].take (Tryz.prog.cellsOf 3)) = xs[2]? := hf 2 _ rfl
      have g3 : DataW.trod enc Tryz.prog w 0 (fun _ => true) true n 24 ([v4].take (Tryz.prog.cellsOf 24)) = xs[3]? := hf 3 _ rfl
      rw [hc1] at g0 g1 g2
      rw [hcs] at g3
      have hx4 : xs.length = 4 := hxl
      rw [List.getElem?_eq_getElem (by omega)] at g0 g1 g2 g3
      obtain ⟨z1, e1, _, _⟩ := DataW.trod_int Tryz.underlying3 g0
      obtain ⟨z2, e2, _, _⟩ := DataW.trod_int Tryz.underlying3 g1
      obtain ⟨z3, e3, _, _⟩ := DataW.trod_int Tryz.underlying3 g2
      have e1' : v1 = nt z1 := by have h9 : [v1] = [Value.int .i64 z1] := e1; cases h9; rfl
      have e2' : v2 = nt z2 := by have h9 : [v2] = [Value.int .i64 z2] := e2; cases h9; rfl
      have e3' : v3 = nt z3 := by have h9 : [v3] = [Value.int .i64 z3] := e3; cases h9; rfl
      have g4 : DataW.trod enc Tryz.prog w 0 (fun _ => true) true n 24 [v4] = some xs[3] := g3
      obtain ⟨A, len, cap, e4⟩ : ∃ A len cap, v4 = .slice A len cap := by
        rcases DataW.trod_slice Tryz.underlying24 g4 with ⟨hq, _⟩ | ⟨a, len, cap, _, _, _, _, hq, _⟩
        · exact ⟨none, 0, 0, by simpa using hq⟩
        · exact ⟨some a, len, cap, by simpa using hq⟩
      subst e1' e2' e3' e4
      obtain ⟨ks, hk1, hk2, hk3, hk4, hk5⟩ := read_sliceQ (sz := 4) (Q := fun cs => ∃ c : CA, c.cells = cs ∧ RepIn (Bel w) w c ∧ CAok c) Tryz.underlying24 (by kernel_rfl) (by decide) g4 (fun n' cs' z' hn' hz' => by
        have hr := read_call n' cs' z' hz'
        exact ⟨by obtain ⟨c, hc, _⟩ := hr; rw [← hc]; exact CA.len c, hr⟩)
      obtain ⟨kl, hkl, hkr⟩ := lift_Q (f := CA.cells) ks hk2
      subst hkl
      have hA := hk3.conv
      refine ⟨CA.mk z1 z2 z3 A cap kl, ?_, .mk0 hA (fun h0 q hq => ?_) (fun x hx => (hkr x hx).1), .mk ?_ (fun x hx => (hkr x hx).2)⟩
      · have hkl2 : kl.length = len := by simpa using hk1
        show [Value.int .i64 z1, nt z2, nt z3, .slice A kl.length cap] = _
        rw [hkl2]
      · obtain ⟨b, o, L, hb, _⟩ := hA.open_ h0
        obtain ⟨a, ha, rfl⟩ := hq
        have hb2 : A = some ⟨b, o, none⟩ := hb
        rw [hb2] at ha hA; cases ha
        exact ArgT.lt hA h0
      · have hkl2 : kl.length = len := by simpa using hk1
        show kl.length ≤ maxLen
        omega
  termination_by m => m
  decreasing_by omega
theorem read_callA {H : Type} {enc : TypeId × Value → H} {w : World} {c : Array Value} {d : DataW H} {ps : List MemPlace} (h : DataW.Trod enc Tryz.prog w 0 (fun _ => true) true 26 (.agg c) d ps) : ∃ x : CA, c = x.cells.toArray ∧ RepIn (Bel w) w x ∧ CAok x := by
  obtain ⟨fuel, hf⟩ := h
  obtain ⟨x, h1, h2⟩ := read_call fuel _ _ hf
  exact ⟨x, by have h9 : c.toList = x.cells := h1.symm; rw [← h9], h2⟩
end Go.Al

namespace Go.Al
open Go Go.RowKit Go.Proofs
set_option maxRecDepth 10000 in
theorem size_step (D : Nat → Prop) (k to m0 : Int) (A : Option Addr) (cap : Nat) (kl : List CA) (w : World) (hIH : ∀ x ∈ kl, ∀ (D : Nat → Prop) w, RepIn D w x → Calls Tryz.prog 14 #[.agg x.cells.toArray] w fun e w' => ∃ m : Int, e = .returned (nt m) ∧ Keep none_ w w') (hmx : kl.length ≤ 9223372036854775807) (hrep : RepL D w A cap kl) : Calls Tryz.prog 14 #[.agg #[nt k, nt to, nt m0, .slice A kl.length cap]] w fun e w' => ∃ m : Int, e = .returned (nt m) ∧ Keep none_ w w' := by
 have hA0 := hrep.1
 have hA := hA0
 have hK0 : Keep none_ w w := Keep.refl _ _
 have hzhK0 := Keep.size hK0
 refine enterV Tryz.func14 rfl [.agg #[nt k, nt to, nt m0, .slice A kl.length cap]] 29 rfl rfl rfl ?_
 refine Vr ?_
 refine OI_box 26 (.tmp 0) (.agg #[nt k, nt to, nt m0, .slice A kl.length cap]) [nt k, nt to, nt m0, .slice A kl.length cap] (some 1) (by kernel_rfl) (by kernel_rfl) (by kernel_rfl) ?_
 intro b1 w1 e1 hb1 k1 z1
 have hsz2 := Keep.size k1
 replace hA := ArgT.keep0 hA k1
 replace hrep := RepL.keep hrep k1 nk
 replace hK0 := hK0.tn k1
 have hb1lt := hb1.lt
 refine On 2 [1] ?_
 refine Oer ?_
 refine On 1 [1, 5] ?_
 refine Oc 24 (.tmp 5) 3 (.slice A kl.length cap) (some 6) hb1 rfl ?_
 refine On 5 [1, 3] ?_
 refine Oe ?_
 refine V_seq ?_
 refine Vs [(1, pt b1), (3, nt (IntKind.i64.wrap (1 + (kl.length : Int)))), (4, nt 0)] ?_
 refine V_block ?_
 refine V_pick [(1, pt b1), (3, nt (IntKind.i64.wrap (1 + (kl.length : Int)))), (4, nt 0)] rfl ?_
 refine V_loop (fun k wI e => ∃ i : Nat, ∃ n : Int, (k + i = kl.length) ∧ Keep none_ w1 wI ∧ e = [(1, pt b1), (3, nt n), (4, nt (i : Int))]) kl.length ⟨0, IntKind.i64.wrap (1 + (kl.length : Int)), by omega, Keep.refl _ _, rfl⟩ ?_
 rintro k4 w3 _ ⟨i, n, hki, hk5, rfl⟩
 have hsz6 := Keep.size hk5
 replace hb1 := hb1.k0 hk5
 replace hA := ArgT.keep0 hA hk5
 replace hrep := RepL.keep hrep hk5 nk
 replace hK0 := hK0.tn hk5
 have hzhk5 := Keep.size hk5
 refine V_seq ?_
 refine Vr ?_
 refine On 2 [1, 3, 4, 9, 10] ?_
 refine Oc 24 (.tmp 10) 3 (.slice A kl.length cap) (some 11) hb1 rfl ?_
 refine Os 6 [(1, pt b1), (3, nt n), (4, nt (i : Int)), (14, .bool (decide ((i : Int) < (kl.length : Int))))] ?_
 by_cases hg7 : (i : Int) < (kl.length : Int)
 ·
  refine OI_eq [(1, pt b1), (3, nt n), (4, nt (i : Int)), (14, .bool true)] (by first | simp [hg7] | rfl) ?_
  refine Ose [(1, pt b1), (3, nt n), (4, nt (i : Int)), (15, nt n), (16, .bool (decide (n < 300))), (17, .bool (decide (n < 300)))] ?_
  refine V_if (n < 300) (by kernel_rfl) (fun hc8 => ?_) (fun hc8 => ?_)
  ·
   refine V_skip ?_
   refine X_then ?_
   refine V_seq ?_
   refine V_block ?_
   refine V_region ?_
   refine On 2 [1, 4, 15, 16, 20, 21] ?_
   refine Oc 24 (.tmp 21) 3 (.slice A kl.length cap) (some 22) hb1 rfl ?_
   refine On 4 [1, 4, 15, 16, 20, 22, 23] ?_
   obtain ⟨b9, o9, L9, rfl, hat9⟩ := ArgT.open_ hA (by first | omega | (simp only [List.length_map]; omega) | (simp; done) | (simp; omega))
   have hb9lt0 := ArgT.lt hA0 (by first | omega | (simp only [List.length_map]; omega) | (simp; done) | (simp; omega))
   have hb9lt := hat9.blk.lt
   refine Oi (b := b9) (o := o9) (len := kl.length) (cap := cap) (j := i) (some 24) 24 (.tmp 22) (.tmp 23) 26 4 48 .i64 ?_
   obtain ⟨x10, hx11⟩ := exAt (xs := kl) (i := i)
   refine OI_aggR 26 (.tmp 24) (o9 + i * 4) (CA.cells x10) (some 25) (by kernel_rfl) (by kernel_rfl) hat9.blk (m := 4) (by kernel_rfl) (AtR.elem' hat9 _ _ (es_at hx11)) (AtR.len hat9 (es_at hx11)) ?_
   refine Ok (kL 14 #[(.tmp 25)] #[26]) 14 #[.agg (CA.cells x10).toArray] (some 26) (hIH x10 (List.mem_of_getElem? hx11) _ _ (hrep.2.2 x10 (List.mem_of_getElem? hx11))) ?_
   rintro _ w12 ⟨m14, rfl, hk13⟩
   refine ⟨_, rfl, ?_⟩
   have hsz15 := Keep.size hk13
   replace hb1 := hb1.k0 hk13
   replace hat9 := hat9.keep hk13 id
   replace hrep := RepL.keep hrep hk13 nk
   replace hK0 := hK0.tn hk13
   replace hk5 := hk5.tn hk13
   refine Os 9 [(1, pt b1), (3, nt (IntKind.i64.wrap (n + m14))), (4, nt (i : Int)), (15, nt n), (16, .bool (decide (n < 300)))] ?_
   refine OI_end rfl ?_
   refine X_block ?_
   refine X_then ?_
   refine V_region ?_
   have hw16 : IntKind.i64.wrap ((i : Int) + 1) = ((i + 1 : Nat) : Int) := wrp
   refine Os 2 [(1, pt b1), (3, nt (IntKind.i64.wrap (n + m14))), (15, nt n), (16, .bool (decide (n < 300))), (19, nt (IntKind.i64.wrap ((i : Int) + 1)))] ?_
   refine Oq (u := nt (IntKind.i64.wrap ((i : Int) + 1))) (v := nt ((i + 1 : Nat) : Int)) 19 (by rw [hw16]) ?_
   refine Os 3 [(1, pt b1), (3, nt (IntKind.i64.wrap (n + m14))), (4, nt ((i + 1 : Nat) : Int)), (15, nt n), (16, .bool (decide (n < 300)))] ?_
   refine OI_end rfl ?_
   exact V_again (k4 - 1) (by omega) [(1, pt b1), (3, nt (IntKind.i64.wrap (n + m14))), (4, nt ((i + 1 : Nat) : Int))] rfl ⟨i + 1, IntKind.i64.wrap (n + m14), by omega, hk5, rfl⟩
  refine V_exit ?_
  refine X_exit_then ?_
  refine X_exit_then ?_
  refine X_exit_here ?_
  refine X_then ?_
  refine Vs [(2, nt n)] ?_
  refine V_ret ?_
  exact X_return (nt n) rfl ⟨_, rfl, hK0⟩
 refine OI_eq [(1, pt b1), (3, nt n), (4, nt (i : Int)), (14, .bool false)] (by first | simp [hg7] | rfl) ?_
 refine Ose [(1, pt b1), (3, nt n), (4, nt (i : Int)), (15, undef), (16, undef), (17, .bool false)] ?_
 refine V_false rfl ?_
 refine V_exit ?_
 refine X_exit_then ?_
 refine X_exit_then ?_
 refine X_exit_here ?_
 refine X_then ?_
 refine Vs [(2, nt n)] ?_
 refine V_ret ?_
 exact X_return (nt n) rfl ⟨_, rfl, hK0⟩
theorem size_spec : ∀ (c : CA), CAok c → ∀ (D : Nat → Prop) (w : World), RepIn D w c → Calls Tryz.prog 14 #[.agg c.cells.toArray] w fun e w' => ∃ m : Int, e = .returned (nt m) ∧ Keep none_ w w'
  | .mk k to m0 A cap kl, hok, D, w, h => size_step D k to m0 A cap kl w (fun x hx D' w' h' => size_spec x (hok.l.2 x hx) D' w' h') (by have h9 := hok.l.1; unfold maxLen at h9; have h8 : kl.length ≤ 2 ^ 63 - 1 := h9; omega) h.l
  termination_by c => SizeOf.sizeOf c
  decreasing_by
    have := List.sizeOf_lt_of_mem hx
    simp only [CA.mk.sizeOf_spec]
    omega
end Go.Al

namespace Go.Al
open Go Go.RowKit Go.Proofs
structure RW where
  xs : List Acc
  cs : List Ci
  s : VS
  rs : List Rfm
def rwSub (ts : List Trk) (q : RW) (who of after : Int) (sum : Nat → Int) (now : Int) : RW := ⟨subX q.xs q.cs q.s ts q.rs who of after, q.cs, subS q.xs q.cs q.s ts q.rs who of after, subR q.xs q.cs q.s ts q.rs who of after sum now⟩
def rwCan (q : RW) (ref now : Int) : RW := ⟨q.xs, q.cs, canS q.s q.rs ref now, canR q.s q.rs ref now⟩
def rwKil (ts : List Trk) (q : RW) (ref now : Int) : RW := ⟨kilX q.xs ts q.rs ref, q.cs, kilS q.s q.rs ref now, kilR q.s q.rs ref now⟩
def rwTrn (q : RW) (a b n : Int) : RW := ⟨transX q.xs q.cs a b n, q.cs, q.s, q.rs⟩
abbrev RsA := List Evt × Int × RW
def spS (t : Trk) (c : CA) (u : RW) : RsA := if c.n > t.cap then ([], 10, u) else if transE u.xs u.cs 0 c.to c.n ≠ 0 then ([], transE u.xs u.cs 0 c.to c.n, rwTrn u 0 c.to c.n) else ([Evt.mk 3 c.to c.n], 0, rwTrn u 0 c.to c.n)
def batS (dk : CA → RW → RsA) : List CA → List Evt → RW → RsA
  | [], out, u => (out, 0, u)
  | x :: l, out, u => if (dk x u).2.1 ≠ 0 then (out ++ (dk x u).1, (dk x u).2.1, (dk x u).2.2) else batS dk l (out ++ (dk x u).1) (dk x u).2.2
def doS (ts : List Trk) (of now : Int) (dk : CA → RW → RsA) (c : CA) (u : RW) : RsA :=
  if c.k = 1 then ([Evt.mk 5 of c.n], 0, u) else if c.k = 2 then spS (trkA ts of) c u else if c.k = 5 then batS dk c.kids [] u
  else if c.k = 3 then (if (trkA ts of).rank < 1 then ([], 8, u) else (canL u.rs c.n, ongE u.rs c.n, rwCan u c.n now))
  else if (trkA ts of).rank < 2 then ([], 8, u) else (kilL u.xs ts u.rs c.n, ongE u.rs c.n, rwKil ts u c.n now)
def doC (ts : List Trk) (of now : Int) : Nat → CA → RW → RsA
  | 0 => doS ts of now (fun _ u => ([], 0, u))
  | f + 1 => doS ts of now (doC ts of now f)
def doD (ts : List Trk) (of now : Int) (c : CA) (u : RW) : RsA := if (trkO ts of).isSome = false ∨ okCA 3 c = false then ([], 1, u) else doC ts of now 3 c u
theorem spS_rs (t : Trk) (c : CA) (u : RW) : (spS t c u).2.2.rs = u.rs := by
  unfold spS
  split
  · rfl
  · split <;> rfl
theorem spS_s (t : Trk) (c : CA) (u : RW) : (spS t c u).2.2.s = u.s := by
  unfold spS
  split
  · rfl
  · split <;> rfl
theorem batS_go {dk : CA → RW → RsA} {l : List CA} {i : Nat} {x : CA} {es : List Evt} {u : RW} (h : l[i]? = some x) (he : (dk x u).2.1 = 0) : batS dk (l.drop i) es u = batS dk (l.drop (i + 1)) (es ++ (dk x u).1) (dk x u).2.2 := by
  obtain ⟨h1, rfl⟩ := List.getElem?_eq_some_iff.1 h
  rw [List.drop_eq_getElem_cons h1, batS, if_neg (fun h => h he)]
theorem batS_no {dk : CA → RW → RsA} {l : List CA} {i : Nat} {x : CA} {es : List Evt} {u : RW} (h : l[i]? = some x) (he : ¬ (dk x u).2.1 = 0) : batS dk (l.drop i) es u = (es ++ (dk x u).1, (dk x u).2.1, (dk x u).2.2) := by
  obtain ⟨h1, rfl⟩ := List.getElem?_eq_some_iff.1 h
  rw [List.drop_eq_getElem_cons h1, batS, if_pos he]
theorem batS_len {dk : CA → RW → RsA} {B : Nat} : ∀ (l : List CA) (es : List Evt) (u : RW), (∀ x ∈ l, ∀ u, (dk x u).1.length ≤ B) → (batS dk l es u).1.length ≤ es.length + l.length * B
  | [], es, u, _ => by simp [batS]
  | x :: l, es, u, h => by
    have h1 := h x (List.mem_cons_self ..) u
    rw [List.length_cons, Nat.succ_mul, batS]
    split
    · rw [List.length_append]; omega
    · have h2 := batS_len l (es ++ (dk x u).1) (dk x u).2.2 (fun y hy => h y (List.mem_cons_of_mem _ hy))
      rw [List.length_append] at h2; omega
theorem kilL_len (xs : List Acc) (ts : List Trk) (rs : List Rfm) (n : Int) : (kilL xs ts rs n).length ≤ 3 := by
  unfold kilL kilL1 kilL2
  split
  · split <;> split <;> simp
  · simp
theorem canL_len (rs : List Rfm) (n : Int) : (canL rs n).length ≤ 3 := by
  unfold canL
  split <;> simp
theorem spS_len (t : Trk) (c : CA) (u : RW) : (spS t c u).1.length ≤ 3 := by
  unfold spS
  split
  · simp
  · split <;> simp
theorem doS_len {ts : List Trk} {of now : Int} {dk : CA → RW → RsA} {B : Nat} (c : CA) (u : RW) (h : c.k = 5 → c.kids.length ≤ 4 ∧ ∀ x ∈ c.kids, ∀ u, (dk x u).1.length ≤ B) : (doS ts of now dk c u).1.length ≤ 3 + 4 * B := by
  unfold doS
  split
  · simp; omega
  · split
    · exact Nat.le_trans (spS_len _ _ _) (by omega)
    · split
      · rename_i h5
        have h1 := batS_len c.kids [] u (h h5).2
        have h2 := Nat.mul_le_mul_right B (h h5).1
        simp at h1; omega
      · split
        · split
          · simp
          · exact Nat.le_trans (canL_len _ _) (by omega)
        · split
          · simp
          · exact Nat.le_trans (kilL_len _ _ _ _) (by omega)
theorem stepC_kids {b : Bool} {ok : CA → Bool} {c : CA} (h : stepC b ok c = true) (h5 : c.k = 5) : b = true ∧ c.kids.length ≤ 4 ∧ ∀ x ∈ c.kids, ok x = true := by
  unfold stepC at h
  simp [h5] at h
  exact ⟨h.1.1.1.1, by omega, h.2⟩
theorem doC_len {ts : List Trk} {of now : Int} : ∀ (f : Nat), f ≤ 3 → ∀ (c : CA) (u : RW), okCA f c = true → (doC ts of now f c u).1.length ≤ 300 := by
  have h0 : ∀ (c : CA) (u : RW), okCA 0 c = true → (doC ts of now 0 c u).1.length ≤ 3 := fun c u h => doS_len (B := 0) c u (fun h5 => by have := stepC_kids h h5; simp at this)
  have h1 : ∀ (c : CA) (u : RW), okCA 1 c = true → (doC ts of now 1 c u).1.length ≤ 15 := fun c u h => doS_len (B := 3) c u (fun h5 => ⟨(stepC_kids h h5).2.1, fun x hx u => h0 x u ((stepC_kids h h5).2.2 x hx)⟩)
  have h2 : ∀ (c : CA) (u : RW), okCA 2 c = true → (doC ts of now 2 c u).1.length ≤ 63 := fun c u h => doS_len (B := 15) c u (fun h5 => ⟨(stepC_kids h h5).2.1, fun x hx u => h1 x u ((stepC_kids h h5).2.2 x hx)⟩)
  have h3 : ∀ (c : CA) (u : RW), okCA 3 c = true → (doC ts of now 3 c u).1.length ≤ 255 := fun c u h => doS_len (B := 63) c u (fun h5 => ⟨(stepC_kids h h5).2.1, fun x hx u => h2 x u ((stepC_kids h h5).2.2 x hx)⟩)
  intro f hf c u h
  match f, hf, h with
  | 0, _, h => exact Nat.le_trans (h0 c u h) (by omega)
  | 1, _, h => exact Nat.le_trans (h1 c u h) (by omega)
  | 2, _, h => exact Nat.le_trans (h2 c u h) (by omega)
  | 3, _, h => exact Nat.le_trans (h3 c u h) (by omega)
end Go.Al

namespace Go.Al
open Go Go.RowKit Go.Proofs
def DoesAt (d r g : Nat) (ts : List Trk) (v l : Nat) (of now : Int) (dk : CA → RW → RsA) (c : CA) : Prop := ∀ (D H F G : Nat → Prop) (u : RW) (w : World), RepIn D w c → Blk w d [pt l, pt v, pt r, nt of, nt now] 86 → Rfr H w r g ts u.rs → VotT F w v u.s → Led G w l u.xs u.cs → (∀ q, H q → ¬ F q) → (∀ q, H q → ¬ G q) → (∀ q, F q → ¬ G q) → (∀ q, D q → q < w.heap.size ∧ ¬ H q ∧ ¬ F q ∧ ¬ G q) → (¬ H d ∧ ¬ F d ∧ ¬ G d) → Calls Tryz.prog 28 #[pt d, .agg c.cells.toArray] w fun e w' => ∃ A' cap', e = .returned (.tuple #[.slice A' ((dk c u).1).length cap', nt ((dk c u).2.1)]) ∧ SlT w' 3 Evt.cells A' cap' ((dk c u).1) ∧ (∀ q, inA A' q → w.heap.size ≤ q) ∧ (∃ H' F' G', Rfr H' w' r g ts (dk c u).2.2.rs ∧ VotT F' w' v (dk c u).2.2.s ∧ Led G' w' l (dk c u).2.2.xs (dk c u).2.2.cs ∧ (∀ q, H' q → H q ∨ w.heap.size ≤ q) ∧ (∀ q, F' q → F q ∨ w.heap.size ≤ q) ∧ (∀ q, G' q → G q ∨ w.heap.size ≤ q) ∧ (∀ q, H' q → ¬ F' q) ∧ (∀ q, H' q → ¬ G' q) ∧ (∀ q, F' q → ¬ G' q) ∧ (∀ q, inA A' q → ¬ H' q) ∧ (∀ q, inA A' q → ¬ F' q) ∧ (∀ q, inA A' q → ¬ G' q)) ∧ Keep (fun q => q = g ∨ F q ∨ G q) w w'
set_option maxRecDepth 10000 in
set_option maxHeartbeats 2000000 in
theorem spend_spec (t : Trk) (c : CA) (d v l r : Nat) (of now : Int) (G : Nat → Prop) (u : RW) (w : World) (hd : Blk w d [pt l, pt v, pt r, nt of, nt now] 86) (hl : Led G w l u.xs u.cs) (hdG : ¬ G d) : Calls Tryz.prog 60 #[pt d, .agg t.cells.toArray, .agg c.cells.toArray] w fun e w' => ∃ A' cap', e = .returned (.tuple #[.slice A' (spS t c u).1.length cap', nt (spS t c u).2.1]) ∧ SlT w' 3 Evt.cells A' cap' (spS t c u).1 ∧ (∀ q, inA A' q → w.heap.size ≤ q) ∧ (∃ G', Led G' w' l (spS t c u).2.2.xs (spS t c u).2.2.cs ∧ (∀ q, G' q → G q ∨ w.heap.size ≤ q) ∧ (∀ q, inA A' q → ¬ G' q)) ∧ Keep G w w' := by
 have hdlt := hd.lt
 have hGlt := Led.lt hl
 have hGd : ∀ q, G q → 0 ≤ q ∧ q ≠ d := fun q hq => ⟨Nat.zero_le _, fun e => hdG (e ▸ hq)⟩
 have hGr : ∀ q, G q → G q ∨ w.heap.size ≤ q := fun _ h => .inl h
 have hK0 : Keep G w w := Keep.refl _ _
 have hzhK0 := Keep.size hK0
 refine enterV Tryz.func60 rfl [pt d, .agg (Trk.cells t).toArray, .agg (CA.cells c).toArray] 32 rfl rfl rfl ?_
 refine Vr ?_
 refine OI_box 80 (.tmp 1) (.agg (Trk.cells t).toArray) (Trk.cells t) (some 4) (by kernel_rfl) (by kernel_rfl) rfl ?_
 intro b1 w1 e1 hb1 k1 z1
 have hsz2 := Keep.size k1
 replace hd := hd.k0 k1
 replace hl := hl.keep k1 nk
 replace hK0 := hK0.tn k1
 have hb1lt := hb1.lt
 refine OI_box 26 (.tmp 2) (.agg (CA.cells c).toArray) (CA.cells c) (some 5) (by kernel_rfl) (by kernel_rfl) rfl ?_
 intro b3 w3 e3 hb3 k3 z3
 have hsz4 := Keep.size k3
 replace hd := hd.k0 k3
 replace hb1 := hb1.k0 k3
 replace hl := hl.keep k3 nk
 replace hK0 := hK0.tn k3
 have hb3lt := hb3.lt
 refine On 4 [0, 4, 5] ?_
 refine Oe ?_
 refine V_seq ?_
 refine Vr ?_
 refine On 1 [0, 4, 5, 9] ?_
 refine Oc 3 (.tmp 9) 2 (nt c.n) (some 10) hb3 rfl ?_
 refine On 3 [0, 5, 10, 11] ?_
 refine Oc 3 (.tmp 11) 16 (nt t.cap) (some 12) hb1 rfl ?_
 refine Ose [(0, pt d), (5, pt b3), (13, .bool (decide (c.n > t.cap)))] ?_
 refine V_if (c.n > t.cap) (by kernel_rfl) (fun hc5 => ?_) (fun hc5 => ?_)
 ·
  refine Vs [(6, .slice none 0 0), (7, nt 10)] ?_
  refine V_ret ?_
  refine X_ret_then ?_
  have hE6 : spS t c u = ([], 10, u) := if_pos hc5
  rw [hE6]
  exact X_return (.tuple #[.slice none 0 0, nt 10]) rfl ⟨none, 0, rfl, SlT.nil _ _ _, (fun q h => (inA_none h).elim), ⟨G, hl, hGr, fun q h => (inA_none h).elim⟩, hK0⟩
 refine V_skip ?_
 refine X_then ?_
 refine V_seq ?_
 refine V_seq ?_
 refine Vd (acts [8]) none_ [[0, 1, 2, 3, 4, 5, 6, 7, 8, 9]] ?_
 intro w8 hk7 he9 L hL10
 have hsz11 := Keep.size hk7
 replace hd := hd.k0 hk7
 replace hb1 := hb1.k0 hk7
 replace hb3 := hb3.k0 hk7
 replace hl := hl.keep hk7 nk
 replace hK0 := hK0.tn hk7
 have qhd := hd
 have qhb1 := hb1
 have qhb3 := hb3
 have K12 : Keep none_ w8 w8 := Keep.refl _ _
 obtain rfl := List.mem_singleton.1 hL10
 refine Gn [3, 4, 5, 6, 7, 8, 9] [5, 16] ?_
 refine Gc0 31 (.tmp 16) 0 (pt l) (some 17) qhd rfl ?_
 refine Gn [5, 6, 7, 8, 9] [5, 17, 18] ?_
 refine Gc0 3 (.tmp 18) 1 (nt c.to) (some 19) qhb3 rfl ?_
 refine Gn [7, 8, 9] [5, 17, 19, 20] ?_
 refine Gc0 3 (.tmp 20) 2 (nt c.n) (some 21) qhb3 rfl ?_
 refine Gk0 (kL 86 #[(.tmp 17), (.const (nt 0)), (.tmp 19), (.tmp 21)] #[31, 3, 3, 3]) 86 #[pt l, nt 0, nt c.to, nt c.n] (some 22) (transfer_spec G l u.xs u.cs 0 c.to c.n _ hl) ?_
 rintro _ w13 ⟨rfl, ⟨F15, ho16, hfr17⟩, hk14⟩
 refine ⟨_, rfl, ?_⟩
 have hsz18 := Keep.size hk14
 replace hd := hd.keep hk14 (fun hs => by have h1 := hGd _ hs; have h2 := hGlt _ hs; omega)
 replace hb1 := hb1.keep hk14 (fun hs => by have h1 := hGd _ hs; have h2 := hGlt _ hs; omega)
 replace hb3 := hb3.keep hk14 (fun hs => by have h1 := hGd _ hs; have h2 := hGlt _ hs; omega)
 replace hK0 := Keep.fresh hK0 hk14 (fun i hi hs => by rcases hGr i hs with h | h; exact h; (exfalso; omega))
 have own20 : ∀ q, F15 q → 0 ≤ q ∧ q ≠ d ∧ q ≠ b1 ∧ q ≠ b3 := fun q hq => by rcases hfr17 q hq with h | h; (have h1 := hGd q h; have h2 := hGlt q h; omega); omega
 have lt19 := Led.lt ho16
 have rel21 : ∀ q, F15 q → G q ∨ w.heap.size ≤ q := fun q hq => by rcases hfr17 q hq with h | h; exact hGr q h; exact .inr (by omega)
 refine Gn [] [5, 8] ?_
 refine GI_end ?_
 refine X_then ?_
 refine Vs [(5, pt b3), (8, nt (transE u.xs u.cs 0 c.to c.n)), (24, .bool (!(decide (transE u.xs u.cs 0 c.to c.n = 0))))] ?_
 refine V_not (transE u.xs u.cs 0 c.to c.n = 0) (by kernel_rfl) (fun hc22 => ?_) (fun hc22 => ?_)
 ·
  refine Vs [(6, .slice none 0 0), (7, nt (transE u.xs u.cs 0 c.to c.n))] ?_
  refine V_ret ?_
  refine X_ret_then ?_
  have hE23 : spS t c u = ([], transE u.xs u.cs 0 c.to c.n, rwTrn u 0 c.to c.n) := by unfold spS; rw [if_neg hc5, if_pos hc22]
  rw [hE23]
  exact X_return (.tuple #[.slice none 0 0, nt (transE u.xs u.cs 0 c.to c.n)]) rfl ⟨none, 0, rfl, SlT.nil _ _ _, (fun q h => (inA_none h).elim), ⟨F15, ho16, rel21, fun q h => (inA_none h).elim⟩, hK0⟩
 refine V_skip ?_
 refine X_then ?_
 refine Vr ?_
 refine On 1 [5, 26] ?_
 refine Oc 3 (.tmp 26) 1 (nt c.to) (some 27) hb3 rfl ?_
 refine On 3 [27, 28] ?_
 refine Oc 3 (.tmp 28) 2 (nt c.n) (some 29) hb3 rfl ?_
 refine On 5 [30] ?_
 refine OI_slit (E := 52) (zv := .agg #[nt 0, nt 0, nt 0]) (sz := 3) (by_ := 24) 27 1 #[(0, (Operand.tmp 30))] [.agg #[nt 3, nt c.to, nt c.n]] [nt 3, nt c.to, nt c.n] (some 31) (by kernel_rfl) (by kernel_rfl) (by kernel_rfl) (by omega) rfl (by omega) (by intro v hv; simp only [List.mem_cons, List.not_mem_nil, or_false] at hv; rcases hv with rfl <;> rfl) (by kernel_rfl) rfl ?_
 intro b24 w24 e24 hb24 k24 z24
 have hsz25 := Keep.size k24
 replace hd := hd.k0 k24
 replace hb1 := hb1.k0 k24
 replace hb3 := hb3.k0 k24
 replace hK0 := hK0.tn k24
 replace ho16 := ho16.keep k24 nk
 have hb24lt := hb24.lt
 refine Ose [(6, sl_ b24 0 1 1), (7, nt 0)] ?_
 refine V_ret ?_
 have hE26 : spS t c u = ([Evt.mk 3 c.to c.n], 0, rwTrn u 0 c.to c.n) := by unfold spS; rw [if_neg hc5, if_neg (fun h => h hc22)]
 rw [hE26]
 exact X_return (.tuple #[sl_ b24 0 1 1, nt 0]) rfl ⟨(some ⟨b24, 0, none⟩), 1, rfl, slt_blk (xs := [Evt.mk 3 c.to c.n]) hb24 Evt.len rfl, (fun q h => by have h3 := inA_some h; omega), ⟨F15, ho16, rel21, fun q h1 h2 => by have h3 := inA_some h1; have h4 := lt19 q h2; omega⟩, hK0⟩
end Go.Al

namespace Go.Al
open Go Go.RowKit Go.Proofs
set_option maxRecDepth 10000 in
set_option maxHeartbeats 2000000 in
theorem batch_spec (D : Nat → Prop) (A : Option Addr) (cap : Nat) (kl : List CA) (d r g : Nat) (ts : List Trk) (v l : Nat) (of now : Int) (dk : CA → RW → RsA) (H F G : Nat → Prop) (u : RW) (w : World) (hIH : ∀ x ∈ kl, DoesAt d r g ts v l of now dk x) (hlen : ∀ x ∈ kl, ∀ u, (dk x u).1.length ≤ 300) (hrep : RepL D w A cap kl) (hd : Blk w d [pt l, pt v, pt r, nt of, nt now] 86) (hR : Rfr H w r g ts u.rs) (hV : VotT F w v u.s) (hl : Led G w l u.xs u.cs) (hHF : ∀ q, H q → ¬ F q) (hHG : ∀ q, H q → ¬ G q) (hFG : ∀ q, F q → ¬ G q) (hDo : ∀ q, D q → q < w.heap.size ∧ ¬ H q ∧ ¬ F q ∧ ¬ G q) (hdo : ¬ H d ∧ ¬ F d ∧ ¬ G d) (hn4 : kl.length ≤ 4) : Calls Tryz.prog 61 #[pt d, .slice A kl.length cap] w fun e w' => ∃ A' cap', e = .returned (.tuple #[.slice A' ((batS dk kl [] u).1).length cap', nt ((batS dk kl [] u).2.1)]) ∧ SlT w' 3 Evt.cells A' cap' ((batS dk kl [] u).1) ∧ (∀ q, inA A' q → w.heap.size ≤ q) ∧ (∃ H' F' G', Rfr H' w' r g ts (batS dk kl [] u).2.2.rs ∧ VotT F' w' v (batS dk kl [] u).2.2.s ∧ Led G' w' l (batS dk kl [] u).2.2.xs (batS dk kl [] u).2.2.cs ∧ (∀ q, H' q → H q ∨ w.heap.size ≤ q) ∧ (∀ q, F' q → F q ∨ w.heap.size ≤ q) ∧ (∀ q, G' q → G q ∨ w.heap.size ≤ q) ∧ (∀ q, H' q → ¬ F' q) ∧ (∀ q, H' q → ¬ G' q) ∧ (∀ q, F' q → ¬ G' q) ∧ (∀ q, inA A' q → ¬ H' q) ∧ (∀ q, inA A' q → ¬ F' q) ∧ (∀ q, inA A' q → ¬ G' q)) ∧ Keep (fun q => q = g ∨ F q ∨ G q) w w' := by
 have hdlt := hd.lt
 have hHlt := Rfr.lt hR
 have hFlt := VotT.lt hV
 have hGlt := Led.lt hl
 have hgH : H g := Rfr.atg hR
 have hHd : ∀ q, H q → 0 ≤ q ∧ q ≠ d := fun q hq => ⟨Nat.zero_le _, fun e => hdo.1 (e ▸ hq)⟩
 have hFd : ∀ q, F q → 0 ≤ q ∧ q ≠ d := fun q hq => ⟨Nat.zero_le _, fun e => hdo.2.1 (e ▸ hq)⟩
 have hGd : ∀ q, G q → 0 ≤ q ∧ q ≠ d := fun q hq => ⟨Nat.zero_le _, fun e => hdo.2.2 (e ▸ hq)⟩
 have hgo : ∀ q, only g q → q ≠ d ∧ q = g := fun q hq => ⟨fun e => hdo.1 (by rw [← e, show q = g from hq]; exact hgH), hq⟩
 have hgl : ∀ q, only g q → q < w.heap.size := fun q hq => by rw [show q = g from hq]; exact hHlt _ hgH
 have hHr : ∀ q, H q → H q ∨ w.heap.size ≤ q := fun _ h => .inl h
 have hFr : ∀ q, F q → F q ∨ w.heap.size ≤ q := fun _ h => .inl h
 have hGr : ∀ q, G q → G q ∨ w.heap.size ≤ q := fun _ h => .inl h
 have hDlt : ∀ q, D q → q < w.heap.size := fun q hq => (hDo q hq).1
 have hK0 : Keep (fun q => q = g ∨ F q ∨ G q) w w := Keep.refl _ _
 have hzhK0 := Keep.size hK0
 refine enterV Tryz.func61 rfl [pt d, .slice A kl.length cap] 32 rfl rfl rfl ?_
 refine Vr ?_
 refine On 2 [0, 1] ?_
 refine Oer ?_
 refine On 1 [0, 1, 6] ?_
 refine Oe ?_
 refine V_seq ?_
 refine Vs [(0, pt d), (6, .slice none 0 0), (11, .slice A kl.length cap), (12, nt (kl.length : Int)), (13, nt 0)] ?_
 refine V_block ?_
 refine V_pick [(0, pt d), (6, .slice none 0 0), (11, .slice A kl.length cap), (12, nt (kl.length : Int)), (13, nt 0)] rfl ?_
 refine V_loop (fun k wI e => ∃ i : Nat, ∃ ui : RW, ∃ Hk : Nat → Prop, ∃ Fk : Nat → Prop, ∃ Gk : Nat → Prop, ∃ A2 : Option Addr, ∃ cap2 : Nat, ∃ es : List Evt, (k + i = kl.length) ∧ (batS dk (kl.drop i) es ui = batS dk kl [] u) ∧ (es.length ≤ i * 300) ∧ (Rfr Hk wI r g ts ui.rs) ∧ (VotT Fk wI v ui.s) ∧ (Led Gk wI l ui.xs ui.cs) ∧ (∀ q, Hk q → H q ∨ w.heap.size ≤ q) ∧ (∀ q, Fk q → F q ∨ w.heap.size ≤ q) ∧ (∀ q, Gk q → G q ∨ w.heap.size ≤ q) ∧ (∀ q, Hk q → ¬ Fk q) ∧ (∀ q, Hk q → ¬ Gk q) ∧ (∀ q, Fk q → ¬ Gk q) ∧ (SlT wI 3 Evt.cells A2 cap2 es) ∧ (∀ q, inA A2 q → w.heap.size ≤ q) ∧ (∀ q, inA A2 q → ¬ Hk q) ∧ (∀ q, inA A2 q → ¬ Fk q) ∧ (∀ q, inA A2 q → ¬ Gk q) ∧ Keep (fun q => q = g ∨ F q ∨ G q) w wI ∧ e = [(0, pt d), (6, .slice A2 es.length cap2), (11, .slice A kl.length cap), (12, nt (kl.length : Int)), (13, nt (i : Int))]) kl.length ⟨0, u, H, F, G, none, 0, [], by omega, rfl, by simp, hR, hV, hl, hHr, hFr, hGr, hHF, hHG, hFG, SlT.nil _ _ _, fun q h => (inA_none h).elim, fun q h => (inA_none h).elim, fun q h => (inA_none h).elim, fun q h => (inA_none h).elim, Keep.refl _ _, rfl⟩ ?_
 rintro k2 w1 _ ⟨i, ui, Hk, Fk, Gk, A2, cap2, es, hki, hbs, hel, hRk, hVk, hLk, hHkr, hFkr, hGkr, dkHF, dkHG, dkFG, hA2, ow2, d2H, d2F, d2G, hk3, rfl⟩
 have hsz4 := Keep.size hk3
 replace hd := hd.keep hk3 (fun hs => by rcases hs with hs | hs | hs; exact hdo.1 (by rw [show d = g from hs]; exact hgH); exact hdo.2.1 hs; exact hdo.2.2 hs)
 replace hrep := RepL.keep hrep hk3 (fun q hq hs => by rcases hs with hs | hs | hs; exact (hDo q hq).2.1 (by rw [show q = g from hs]; exact hgH); exact (hDo q hq).2.2.1 hs; exact (hDo q hq).2.2.2 hs)
 replace hK0 := Keep.fresh hK0 hk3 (fun i hi hs => hs)
 have hzhk3 := Keep.size hk3
 have hHko : ∀ q, Hk q → 0 ≤ q ∧ q ≠ d := fun q hq => ⟨Nat.zero_le _, fun e => by rcases hHkr q hq with h | h; exact hdo.1 (e ▸ h); omega⟩
 have hFko : ∀ q, Fk q → 0 ≤ q ∧ q ≠ d := fun q hq => ⟨Nat.zero_le _, fun e => by rcases hFkr q hq with h | h; exact hdo.2.1 (e ▸ h); omega⟩
 have hGko : ∀ q, Gk q → 0 ≤ q ∧ q ≠ d := fun q hq => ⟨Nat.zero_le _, fun e => by rcases hGkr q hq with h | h; exact hdo.2.2 (e ▸ h); omega⟩
 have hHklt := Rfr.lt hRk
 have hFklt := VotT.lt hVk
 have hGklt := Led.lt hLk
 have lt2 := SlT.lt hA2
 have hA := hrep.1
 refine Vs [(0, pt d), (6, .slice A2 es.length cap2), (11, .slice A kl.length cap), (12, nt (kl.length : Int)), (13, nt (i : Int)), (14, .bool (decide ((i : Int) < (kl.length : Int))))] ?_
 refine V_seq ?_
 refine V_if ((i : Int) < (kl.length : Int)) (by kernel_rfl) (fun hc5 => ?_) (fun hc5 => ?_)
 ·
  refine V_skip ?_
  refine X_then ?_
  refine V_seq ?_
  refine V_block ?_
  refine Vr ?_
  obtain ⟨b6, o6, L6, rfl, hat6⟩ := ArgT.open_ hA (by first | omega | (simp only [List.length_map]; omega) | (simp; done) | (simp; omega))
  have hb6lt0 := ArgT.lt hA (by first | omega | (simp only [List.length_map]; omega) | (simp; done) | (simp; omega))
  have hb6lt := hat6.blk.lt
  refine Oi (b := b6) (o := o6) (len := kl.length) (cap := cap) (j := i) (some 15) 24 (.tmp 11) (.tmp 13) 26 4 48 .i64 ?_
  obtain ⟨x7, hx8⟩ := exAt (xs := kl) (i := i)
  refine OI_aggR 26 (.tmp 15) (o6 + i * 4) (CA.cells x7) (some 16) (by kernel_rfl) (by kernel_rfl) hat6.blk (m := 4) (by kernel_rfl) (AtR.elem' hat6 _ _ (es_at hx8)) (AtR.len hat6 (es_at hx8)) ?_
  refine OI_alloc 26 (.agg #[nt 0, nt 0, nt 0, .slice none 0 0]) [nt 0, nt 0, nt 0, .slice none 0 0] (some 8) (by kernel_rfl) (by kernel_rfl) (by kernel_rfl) ?_
  intro b9 w9 e9 hb9 k9 z9
  have hsz10 := Keep.size k9
  replace hd := hd.k0 k9
  replace hat6 := hat6.keep k9 id
  replace hA2 := hA2.keep0 k9
  replace hrep := RepL.keep hrep k9 nk
  replace hK0 := hK0.tn k9
  replace hk3 := hk3.tn k9
  replace hRk := hRk.keep k9 nk
  replace hVk := hVk.keep k9 nk
  replace hLk := hLk.keep k9 nk
  have hb9lt := hb9.lt
  refine Otg 26 (.tmp 8) (.tmp 16) 0 (CA.cells x7) hb9 (CA.len _) (CA.one _) ?_
  intro w11 hb9_14 hk12 hz13
  replace hb9_14 : Blk w11 b9 (CA.cells x7) 26 := (by rwa [over_whole (by rw [CA.len]; rfl)] at hb9_14)
  have hsz15 := Keep.size hk12
  replace hd := hd.k1 hk12
  replace hat6 := hat6.keep hk12 (by show ¬ (_ = _); omega)
  replace hA2 := hA2.keep hk12 (fun q hq hs => by have hs : q = b9 := hs; have g0 := ow2 q hq; have g1 := lt2 q hq; omega)
  replace hrep := RepL.keep hrep hk12 (fun q hq hs => by have hs : q = b9 := hs; have g1 := hDlt q hq; omega)
  replace hK0 := Keep.fr hK0 hk12
  replace hk3 := Keep.fr hk3 hk12
  replace hRk := hRk.keep hk12 (fun q hq hs => by have hs : q = b9 := hs; have g0 := hHko q hq; have g1 := hHklt q hq; omega)
  replace hVk := hVk.keep hk12 (fun q hq hs => by have hs : q = b9 := hs; have g0 := hFko q hq; have g1 := hFklt q hq; omega)
  replace hLk := hLk.keep hk12 (fun q hq hs => by have hs : q = b9 := hs; have g0 := hGko q hq; have g1 := hGklt q hq; omega)
  refine Oer ?_
  refine On 1 [0, 6, 8, 11, 12, 13, 18] ?_
  refine Oa 26 (.tmp 8) 0 (CA.cells x7) (some 19) 4 hb9_14 (take_all (CA.len _)) (CA.len _) ?_
  have hlx := hlen x7 (List.mem_of_getElem? hx8) ui
  have hDo2 : ∀ q, D q → q < w11.heap.size ∧ ¬ Hk q ∧ ¬ Fk q ∧ ¬ Gk q := fun q hq => ⟨by have h1 := hDlt q hq; omega, ((fun (q : Nat) (h1 : D q) (h2 : Hk q) => by rcases hHkr q h2 with h | h; exact (hDo q h1).2.1 h; (have h3 := hDlt q h1; omega))) q hq, ((fun (q : Nat) (h1 : D q) (h2 : Fk q) => by rcases hFkr q h2 with h | h; exact (hDo q h1).2.2.1 h; (have h3 := hDlt q h1; omega))) q hq, ((fun (q : Nat) (h1 : D q) (h2 : Gk q) => by rcases hGkr q h2 with h | h; exact (hDo q h1).2.2.2 h; (have h3 := hDlt q h1; omega))) q hq⟩
  have hdo2 : ¬ Hk d ∧ ¬ Fk d ∧ ¬ Gk d := ⟨fun h => (hHko d h).2 rfl, fun h => (hFko d h).2 rfl, fun h => (hGko d h).2 rfl⟩
  refine Ok (kL 28 #[(.tmp 18), (.tmp 19)] #[84, 26]) 28 #[pt d, .agg (CA.cells x7).toArray] (some 20) (hIH x7 (List.mem_of_getElem? hx8) D Hk Fk Gk ui _ (hrep.2.2 x7 (List.mem_of_getElem? hx8)) hd hRk hVk hLk dkHF dkHG dkFG hDo2 hdo2) ?_
  rintro _ w16 ⟨A18, cap18, rfl, hA18, ow18, ⟨F19, F22, F25, ho20, ho23, ho26, hfr21, hfr24, hfr27, hdis28, hdis29, hdis30, dA31, dA32, dA33⟩, hk17⟩
  refine ⟨_, rfl, ?_⟩
  have hsz34 := Keep.size hk17
  replace hd := hd.keep hk17 (fun hs => by rcases hs with hs | hs | hs; (have u0 := hgo _ hs; have u1 := hgl _ hs; omega); (have u0 := hFko _ hs; have u1 := hFklt _ hs; omega); (have u0 := hGko _ hs; have u1 := hGklt _ hs; omega))
  replace hb9_14 := hb9_14.keep hk17 (fun hs => by rcases hs with hs | hs | hs; (have u0 := hgo _ hs; have u1 := hgl _ hs; omega); (have u0 := hFko _ hs; have u1 := hFklt _ hs; omega); (have u0 := hGko _ hs; have u1 := hGklt _ hs; omega))
  replace hA2 := hA2.keep hk17 (fun q hq hs => by rcases hs with hs | hs | hs; exact d2H q hq (by rw [show q = g from hs]; exact (Rfr.atg hRk)); exact d2F q hq hs; exact d2G q hq hs)
  replace hrep := RepL.keep hrep hk17 (fun q hq hs => by rcases hs with hs | hs | hs; exact (fun (q : Nat) (h1 : D q) (h2 : Hk q) => by rcases hHkr q h2 with h | h; exact (hDo q h1).2.1 h; (have h3 := hDlt q h1; omega)) q hq (by rw [show q = g from hs]; exact (Rfr.atg hRk)); exact (fun (q : Nat) (h1 : D q) (h2 : Fk q) => by rcases hFkr q h2 with h | h; exact (hDo q h1).2.2.1 h; (have h3 := hDlt q h1; omega)) q hq hs; exact (fun (q : Nat) (h1 : D q) (h2 : Gk q) => by rcases hGkr q h2 with h | h; exact (hDo q h1).2.2.2 h; (have h3 := hDlt q h1; omega)) q hq hs)
  replace hK0 := Keep.fresh hK0 hk17 (fun i hi hs => by rcases hs with hs | hs | hs; (exact .inl hs); (rcases hFkr i hs with h | h; exact .inr <| .inl h; (exfalso; omega)); (rcases hGkr i hs with h | h; exact .inr <| .inr <| h; (exfalso; omega)))
  replace hk3 := Keep.fresh hk3 hk17 (fun i hi hs => by rcases hs with hs | hs | hs; (exact .inl hs); (rcases hFkr i hs with h | h; exact .inr <| .inl h; (exfalso; omega)); (rcases hGkr i hs with h | h; exact .inr <| .inr <| h; (exfalso; omega)))
  have own36 : ∀ q, F19 q → 0 ≤ q ∧ q ≠ d ∧ q ≠ b9 := fun q hq => by rcases hfr21 q hq with h | h; (have h1 := hHko q h; have h2 := hHklt q h; omega); omega
  have lt35 := Rfr.lt ho20
  have rel37 : ∀ q, F19 q → H q ∨ w.heap.size ≤ q := fun q hq => by rcases hfr21 q hq with h | h; exact hHkr q h; exact .inr (by omega)
  have dis38 : ∀ q, F19 q → ¬ inA A2 q := fun q h1 h2 => by rcases hfr21 q h1 with h | h; exact (fun q h1 h2 => d2H q h2 h1) q h h2; (have h4 := lt2 q h2; omega)
  have own40 : ∀ q, F22 q → 0 ≤ q ∧ q ≠ d ∧ q ≠ b9 := fun q hq => by rcases hfr24 q hq with h | h; (have h1 := hFko q h; have h2 := hFklt q h; omega); omega
  have lt39 := VotT.lt ho23
  have rel41 : ∀ q, F22 q → F q ∨ w.heap.size ≤ q := fun q hq => by rcases hfr24 q hq with h | h; exact hFkr q h; exact .inr (by omega)
  have dis42 : ∀ q, F22 q → ¬ inA A2 q := fun q h1 h2 => by rcases hfr24 q h1 with h | h; exact (fun q h1 h2 => d2F q h2 h1) q h h2; (have h4 := lt2 q h2; omega)
  have own44 : ∀ q, F25 q → 0 ≤ q ∧ q ≠ d ∧ q ≠ b9 := fun q hq => by rcases hfr27 q hq with h | h; (have h1 := hGko q h; have h2 := hGklt q h; omega); omega
  have lt43 := Led.lt ho26
  have rel45 : ∀ q, F25 q → G q ∨ w.heap.size ≤ q := fun q hq => by rcases hfr27 q hq with h | h; exact hGkr q h; exact .inr (by omega)
  have dis46 : ∀ q, F25 q → ¬ inA A2 q := fun q h1 h2 => by rcases hfr27 q h1 with h | h; exact (fun q h1 h2 => d2G q h2 h1) q h h2; (have h4 := lt2 q h2; omega)
  have ltA18 := SlT.lt hA18
  refine On 8 [0, 6, 9, 10, 11, 12, 13] ?_
  refine Oer ?_
  refine Os 2 [(0, pt d), (10, nt ((dk x7 ui).2.1)), (11, sl_ b6 o6 kl.length cap), (12, nt (kl.length : Int)), (13, nt (i : Int)), (23, .slice A2 es.length cap2), (24, .slice A18 (((dk x7 ui).1).length) cap18)] ?_
  have hl47 : (dk x7 ui).1.length = ((dk x7 ui).1).length := rfl
  have hy47 := SlT.slr hA18
  refine OI_append (t := 27) (at2 := 27) (E := 52) (E2 := 52) (sz := 3) (by_ := 24) (zv := .agg #[nt 0, nt 0, nt 0]) (m := es.length) (k := ((dk x7 ui).1).length) (.tmp 23) (.tmp 24) (.slice A2 es.length cap2) (.slice A18 (((dk x7 ui).1).length) cap18) (some 25) (by kernel_rfl) (by kernel_rfl) (by kernel_rfl) (by kernel_rfl) (by kernel_rfl) (by kernel_rfl) (by kernel_rfl) (SlT.slr hA2) hy47 (fun u hu => by obtain ⟨z, _, hz⟩ := List.mem_flatMap.1 hu; exact Evt.one z u hz) (by first | omega | ((repeat first | rw [List.length_append] | rw [List.length_cons] | rw [List.length_nil] | rw [List.length_take] | rw [List.length_drop]) <;> omega)) (by omega) (by first | omega | ((repeat first | rw [List.length_append] | rw [List.length_cons] | rw [List.length_nil] | rw [List.length_take] | rw [List.length_drop]) <;> omega)) (by omega) ?_
  intro vv9 w47 hap
  obtain ⟨A47, cap47, rfl, hA47, hk47, own47x⟩ := app_many (f := Evt.cells) (xs := es) (ys := ((dk x7 ui).1)) (A := A2) (cap := cap2) hap hl47 Evt.len
  have own47 : ∀ q, inA A47 q → w.heap.size ≤ q := fun q hq => by rcases own47x q hq with h | h; (have h8 := ow2 q h; have h9 := lt2 q h; show w.heap.size ≤ q; omega); (show w.heap.size ≤ q; omega)
  have hsz48 := Keep.size hk47
  replace hd := hd.keep hk47 (fun hs => by have h1 := ow2 _ hs; have h2 := lt2 _ hs; omega)
  replace hb9_14 := hb9_14.keep hk47 (fun hs => by have h1 := ow2 _ hs; have h2 := lt2 _ hs; omega)
  replace hA18 := hA18.keep hk47 (fun q hq hs => by have g0 := ow18 q hq; have g1 := ltA18 q hq; have h1 := ow2 q hs; have h2 := lt2 q hs; omega)
  replace hK0 := Keep.fresh hK0 hk47 (by intro i hi hs; first | exact hs | (exfalso; have h1 := ow2 i hs; have h2 := lt2 i hs; omega) | (have h1 := ow2 i hs; have h2 := lt2 i hs; show _ ∨ _; omega))
  replace hk3 := Keep.fresh hk3 hk47 (by intro i hi hs; first | exact hs | (exfalso; have h1 := ow2 i hs; have h2 := lt2 i hs; omega) | (have h1 := ow2 i hs; have h2 := lt2 i hs; show _ ∨ _; omega))
  replace ho20 := ho20.keep hk47 (fun q hq hs => (fun q h1 h2 => dis38 q h2 h1) q hs hq)
  replace ho23 := ho23.keep hk47 (fun q hq hs => (fun q h1 h2 => dis42 q h2 h1) q hs hq)
  replace ho26 := ho26.keep hk47 (fun q hq hs => (fun q h1 h2 => dis46 q h2 h1) q hs hq)
  have lt47 := SlT.lt hA47
  have hcap47 := SlT.cap_le hA47
  have dis49 : ∀ q, inA A47 q → ¬ F19 q := fun q h1 h2 => by rcases own47x q h1 with h | h; exact dis38 q h2 h; (have h4 := lt35 q h2; omega)
  have dis50 : ∀ q, inA A47 q → ¬ F22 q := fun q h1 h2 => by rcases own47x q h1 with h | h; exact dis42 q h2 h; (have h4 := lt39 q h2; omega)
  have dis51 : ∀ q, inA A47 q → ¬ F25 q := fun q h1 h2 => by rcases own47x q h1 with h | h; exact dis46 q h2 h; (have h4 := lt43 q h2; omega)
  refine On 4 [0, 6, 10, 11, 12, 13] ?_
  refine Oer ?_
  refine Ose [(0, pt d), (6, .slice A47 ((es ++ ((dk x7 ui).1)).length) cap47), (10, nt ((dk x7 ui).2.1)), (11, sl_ b6 o6 kl.length cap), (12, nt (kl.length : Int)), (13, nt (i : Int)), (27, .bool (!(decide ((dk x7 ui).2.1 = 0))))] ?_
  refine V_not ((dk x7 ui).2.1 = 0) (by kernel_rfl) (fun hc52 => ?_) (fun hc52 => ?_)
  ·
   refine Vs [(4, .slice A47 ((es ++ ((dk x7 ui).1)).length) cap47), (5, nt ((dk x7 ui).2.1))] ?_
   refine V_ret ?_
   refine X_ret_block ?_
   refine X_ret_then ?_
   refine X_ret_then ?_
   refine X_ret_block ?_
   refine X_ret_then ?_
   have hE : batS dk kl [] u = (es ++ (dk x7 ui).1, (dk x7 ui).2.1, (dk x7 ui).2.2) := hbs.symm.trans (batS_no hx8 hc52)
   rw [hE]
   exact X_return (.tuple #[.slice A47 ((es ++ ((dk x7 ui).1)).length) cap47, nt ((dk x7 ui).2.1)]) rfl ⟨A47, cap47, rfl, hA47, own47, ⟨F19, F22, F25, ho20, ho23, ho26, rel37, rel41, rel45, hdis28, hdis29, hdis30, dis49, dis50, dis51⟩, hK0⟩
  refine V_skip ?_
  refine X_block ?_
  refine X_then ?_
  refine V_region ?_
  have hw53 : IntKind.i64.wrap ((i : Int) + 1) = ((i + 1 : Nat) : Int) := wrp
  refine Os 1 [(0, pt d), (6, .slice A47 ((es ++ ((dk x7 ui).1)).length) cap47), (11, sl_ b6 o6 kl.length cap), (12, nt (kl.length : Int)), (30, nt (IntKind.i64.wrap ((i : Int) + 1)))] ?_
  refine Oq (u := nt (IntKind.i64.wrap ((i : Int) + 1))) (v := nt ((i + 1 : Nat) : Int)) 30 (by rw [hw53]) ?_
  refine Os 2 [(0, pt d), (6, .slice A47 ((es ++ ((dk x7 ui).1)).length) cap47), (11, sl_ b6 o6 kl.length cap), (12, nt (kl.length : Int)), (13, nt ((i + 1 : Nat) : Int))] ?_
  refine OI_end rfl ?_
  have he0 : (dk x7 ui).2.1 = 0 := hc52
  exact V_again (k2 - 1) (by omega) [(0, pt d), (6, .slice A47 ((es ++ ((dk x7 ui).1)).length) cap47), (11, sl_ b6 o6 kl.length cap), (12, nt (kl.length : Int)), (13, nt ((i + 1 : Nat) : Int))] rfl ⟨i + 1, (dk x7 ui).2.2, F19, F22, F25, A47, cap47, (es ++ ((dk x7 ui).1)), by omega, by rw [← batS_go hx8 he0]; exact hbs, by rw [List.length_append]; omega, ho20, ho23, ho26, rel37, rel41, rel45, hdis28, hdis29, hdis30, hA47, own47, dis49, dis50, dis51, hk3, rfl⟩
 refine V_exit ?_
 refine X_exit_then ?_
 refine X_exit_then ?_
 refine X_exit_here ?_
 refine X_then ?_
 refine Vs [(4, .slice A2 es.length cap2), (5, nt 0)] ?_
 refine V_ret ?_
 have he : i = kl.length := by omega
 have hE : batS dk kl [] u = (es, 0, ui) := by rw [← hbs, he, List.drop_length]; rfl
 rw [hE]
 exact X_return (.tuple #[.slice A2 es.length cap2, nt 0]) rfl ⟨A2, cap2, rfl, hA2, ow2, ⟨Hk, Fk, Gk, hRk, hVk, hLk, hHkr, hFkr, hGkr, dkHF, dkHG, dkFG, d2H, d2F, d2G⟩, hK0⟩
end Go.Al
