/-
  Put together out of 7 texts: Walks of package refer: Kill. New. Walks of the laws of refer: the document's answers. Calls; which of them may be. A call that is handed in. How large a call is. What calls do.
-/
import Derived.Test.YtcaiibbhnalffaaGreatActDoesB3
open Go.IntKind (i64)
set_option maxRecDepth 10000
namespace Go.Al
open Go Go.RowKit Go.Proofs
set_option maxHeartbeats 2000000 in
theorem kill_go (H : Nat → Prop) (r g : Nat) (ts : List Trk) (rs : List Rfm) (F : Nat → Prop) (v : Nat) (s : VS) (G : Nat → Prop) (l : Nat) (xs : List Acc) (cs : List Ci) (ref now : Int) (w : World) (hR : Rfr H w r g ts rs) (hV : VotT F w v s) (hl : Led G w l xs cs) (hHF : ∀ q, H q → ¬ F q) (hHG : ∀ q, H q → ¬ G q) (hFG : ∀ q, F q → ¬ G q) (hong : ongE rs ref = 0) : Calls Tryz.prog 63 #[pt r, pt l, pt v, nt ref, nt now] w fun e w' => ∃ A' cap', e = .returned (.tuple #[.slice A' (kilL xs ts rs ref).length cap', nt (ongE rs ref)]) ∧ SlT w' 3 Evt.cells A' cap' (kilL xs ts rs ref) ∧ (∀ q, inA A' q → w.heap.size ≤ q) ∧ (∃ H' F' G', Rfr H' w' r g ts (kilR s rs ref now) ∧ VotT F' w' v (kilS s rs ref now) ∧ Led G' w' l (kilX xs ts rs ref) cs ∧ (∀ q, H' q → H q ∨ w.heap.size ≤ q) ∧ (∀ q, F' q → F q ∨ w.heap.size ≤ q) ∧ (∀ q, G' q → G q ∨ w.heap.size ≤ q) ∧ (∀ q, H' q → ¬ F' q) ∧ (∀ q, H' q → ¬ G' q) ∧ (∀ q, F' q → ¬ G' q) ∧ (∀ q, inA A' q → ¬ H' q) ∧ (∀ q, inA A' q → ¬ F' q) ∧ (∀ q, inA A' q → ¬ G' q)) ∧ Keep (fun q => q = g ∨ F q ∨ G q) w w' := by
 have hHlt := Rfr.lt hR
 have hrH := Rfr.at_ hR
 have hgH := Rfr.atg hR
 have hrlt := hHlt _ hrH
 have hglt := hHlt _ hgH
 have hin := Rfr.inn hR
 obtain ⟨A, cap, hr, hA, hAo, hrg⟩ := Rfr.parts hR
 have hAlt := SlT.lt hA
 have hAr : ∀ q, inA A q → q ≠ r ∧ q ≠ g ∧ q < w.heap.size := fun q hq => ⟨(hAo q hq).2.1, (hAo q hq).2.2, hAlt q hq⟩
 have hgo : ∀ q, only g q → q ≠ r ∧ q = g := fun q hq => ⟨fun e => hrg (e.symm.trans hq), hq⟩
 have hgl : ∀ q, only g q → q < w.heap.size := fun q hq => by rw [show q = g from hq]; exact hglt
 have hHo : ∀ q, H q → 0 ≤ q := fun q _ => Nat.zero_le q
 have htl := hin.tl
 have hrl := hin.rl
 have hFlt := VotT.lt hV
 have hvlt := hFlt _ (VotT.at_ hV)
 have hVr : ∀ q, F q → q ≠ r := fun q hq e => hHF r hrH (e ▸ hq)
 have hGlt := Led.lt hl
 have hllt := hGlt _ (Led.at_ hl)
 have hlr : ∀ q, G q → q ≠ r := fun q hq e => hHG r hrH (e ▸ hq)
 have hinv := Led.inv hl
 have hHr : ∀ q, H q → H q ∨ w.heap.size ≤ q := fun _ h => .inl h
 have hFr : ∀ q, F q → F q ∨ w.heap.size ≤ q := fun _ h => .inl h
 have hGr : ∀ q, G q → G q ∨ w.heap.size ≤ q := fun _ h => .inl h
 have hx := ong_some hong
 obtain ⟨href, htr, hrat⟩ := getA_at hin hx
 obtain ⟨jt, hjt, hjl, htk, htm⟩ := trkA_at htr
 have hokt := hin.tok _ htm
 have hdep : 0 ≤ (trkA ts (getA rs ref).track).deposit ∧ (trkA ts (getA rs ref).track).deposit ≤ 1073741824 := hokt.2.1
 have hK0 : Keep (fun q => q = g ∨ F q ∨ G q) w w := Keep.refl _ _
 refine eV ?_
 refine Vr <| Bx 31 [pt l] ?_
 intro b1 w1 e1 hb1 k1 z1
 have hsz2 := Keep.size k1
 replace hR := hR.keep k1 nk
 replace hV := hV.keep k1 nk
 replace hl := hl.keep k1 nk
 replace hK0 := hK0.tn k1
 have hb1lt := hb1.lt
 refine On 3 [0, 2, 3, 4, 6] <| Oe <| V_seq <| Vr <| On 3 [0, 2, 3, 4, 6, 19] <| Lr 0 (pt l) hb1 <| Oen [0, 2, 3, 4, 6, 26] <| Vf <| Vsk <| V_seq <| Vr <| On 2 [0, 2, 3, 4, 6, 27, 28] <| Kk (ongoing_spec H r g ts rs ref _ hR) fun w5 hk6 _ => ?_
 replace hr := hr.k0 (k1.tr hk6)
 replace hb1 := hb1.k0 hk6
 replace hA := hA.keep0 (k1.tr hk6)
 replace hR := hR.keep hk6 nk
 replace hV := hV.keep hk6 nk
 replace hl := hl.keep hk6 nk
 replace hK0 := hK0.tn hk6
 refine On 4 [0, 2, 3, 4, 6, 12] <| Oer <| Oen [0, 2, 3, 4, 6, 12, 31] <| Vq (u := .bool (!(decide (ongE rs ref = 0)))) (v := .bool false) 31 (by rw [decide_eq_true hong]; rfl) <| Vf <| Vsk <| Vr <| On 4 [0, 3, 6, 33, 34, 35, 36] <| Kg (ends_spec H r g ts rs F v s ref 6 now _ hR hV hHF (ong_some hong)) ?_
 rintro _ w11 ⟨rfl, ⟨F13, F16, ho14, ho17, hfr15, hfr18, hdis19⟩, hk12⟩
 refine ⟨_, rfl, ?_⟩
 have hsz20 := Keep.size hk12
 replace hr := hr.keep hk12 (fun hs => by rcases hs with hs | hs; (have u0 := hgo _ hs; have u1 := hgl _ hs; omega); (have u0 := hVr _ hs; have u1 := hFlt _ hs; omega))
 replace hb1 := hb1.keep hk12 (fun hs => by rcases hs with hs | hs; (have u0 := hgo _ hs; have u1 := hgl _ hs; omega); (have u0 := hVr _ hs; have u1 := hFlt _ hs; omega))
 replace hA := hA.keep hk12 (fun q hq hs => by rcases hs with hs | hs; exact (hAo q hq).2.2 hs; exact (fun q h1 h2 => hHF q (hAo q h1).1 h2) q hq hs)
 replace hl := hl.keep hk12 (fun q hq hs => by rcases hs with hs | hs; exact hHG q (by rw [show q = g from hs]; exact hgH) hq; exact hFG q hs hq)
 replace hK0 := Keep.fresh hK0 hk12 (fun i hi hs => by rcases hs with hs | hs; (exact .inl hs); (rcases hFr i hs with h | h; exact .inr <| .inl h; (exfalso; omega)))
 have own22 : ∀ q, F13 q → 0 ≤ q ∧ q ≠ b1 := fun q hq => by rcases hfr15 q hq with h | h; (have h1 := hHo q h; have h2 := hHlt q h; omega); omega
 have lt21 := Rfr.lt ho14
 have rel23 : ∀ q, F13 q → H q ∨ w.heap.size ≤ q := fun q hq => by rcases hfr15 q hq with h | h; exact hHr q h; exact .inr (by omega)
 have dis24 : ∀ q, F13 q → ¬ G q := fun q h1 h2 => by rcases hfr15 q h1 with h | h; exact hHG q h h2; (have h4 := hGlt q h2; omega)
 have own26 : ∀ q, F16 q → q ≠ r ∧ q ≠ r ∧ q ≠ b1 := fun q hq => by rcases hfr18 q hq with h | h; (have h1 := hVr q h; have h2 := hFlt q h; omega); omega
 have lt25 := VotT.lt ho17
 have rel27 : ∀ q, F16 q → F q ∨ w.heap.size ≤ q := fun q hq => by rcases hfr18 q hq with h | h; exact hFr q h; exact .inr (by omega)
 have dis28 : ∀ q, F16 q → ¬ inA A q := fun q h1 h2 => by rcases hfr18 q h1 with h | h; exact (fun q h1 h2 => hHF q (hAo q h2).1 h1) q h h2; (have h4 := hAlt q h2; omega)
 have dis29 : ∀ q, F16 q → ¬ G q := fun q h1 h2 => by rcases hfr18 q h1 with h | h; exact hFG q h h2; (have h4 := hGlt q h2; omega)
 refine OI_slit (E := 52) (zv := .agg #[nt 0, nt 0, nt 0]) (sz := 3) (by_ := 24) 27 1 #[(0, (Operand.tmp 37))] [.agg (Evt.cells (Evt.mk 1 ref 6)).toArray] (Evt.cells (Evt.mk 1 ref 6)) (some 38) (by kernel_rfl) (by kernel_rfl) (by kernel_rfl) (by omega) rfl (by omega) (by intro v hv; obtain rfl := List.mem_singleton.1 hv; show (Evt.cells (Evt.mk 1 ref 6)).toArray.size = 3; simp [Evt.len]) (by kernel_rfl) (by show (Evt.cells (Evt.mk 1 ref 6)).toArray.toList ++ [] = _; simp) ?_
 intro b30 w30 e30 hb30 k30 z30
 have hsz31 := Keep.size k30
 replace hl := hl.keep k30 nk
 replace hK0 := hK0.tn k30
 replace ho14 := ho14.keep k30 nk
 replace ho17 := ho17.keep k30 nk
 have hb30lt := hb30.lt
 refine Alc_ 27 (.slice none 0 0) [.slice none 0 0] ?_
 intro b32 w32 e32 hb32 k32 z32
 have hsz33 := Keep.size k32
 replace hr := hr.k0 (k30.tr k32)
 replace hb1 := hb1.k0 (k30.tr k32)
 replace hb30 := hb30.k0 k32
 replace hA := hA.keep0 (k30.tr k32)
 replace hl := hl.keep k32 nk
 replace hK0 := hK0.tn k32
 replace ho14 := ho14.keep k32 nk
 replace ho17 := ho17.keep k32 nk
 have hb32lt := hb32.lt
 refine St_ 0 (sl_ b30 0 1 1) hb32 ?_
 intro w34 hb32_37 hk35 hz36
 replace hb32_37 : Blk w34 b32 [sl_ b30 0 1 1] 27 := hb32_37
 have hsz38 := Keep.size hk35
 replace hr := hr.k1 hk35
 replace hb1 := hb1.k1 hk35
 replace hb30 := hb30.k1 hk35
 replace hA := hA.keep hk35 (fun q hq hs => by have hs : q = b32 := hs; have g0 := hAr q hq; have g1 := hAlt q hq; omega)
 replace hl := hl.keep hk35 (fun q hq hs => by have hs : q = b32 := hs; have g0 := hlr q hq; have g1 := hGlt q hq; omega)
 replace hK0 := Keep.fr hK0 hk35
 replace ho14 := ho14.keep hk35 (fun q hq hs => by have hs : q = b32 := hs; have g0 := own22 q hq; have g1 := lt21 q hq; omega)
 replace ho17 := ho17.keep hk35 (fun q hq hs => by have hs : q = b32 := hs; have g0 := own26 q hq; have g1 := lt25 q hq; omega)
 refine Oer <| On 2 [0, 3, 6, 13, 40, 41] ?_
 obtain ⟨hge1, hge2, hge3⟩ := endR_at (s := s) (st := 6) (now := now) (ong_some hong)
 refine Ok (kL 11 #[(.tmp 40),(.tmp 41)] #[33, 3]) 11 #[pt r, nt ref] (some 42) (rget_spec F13 r g ts (endR s rs ref 6 now) ref _ ho14) ?_
 rintro _ w41 ⟨rfl, hk42⟩
 refine ⟨_, rfl, ?_⟩
 have hsz43 := Keep.size hk42
 replace hl := hl.keep hk42 nk
 replace hK0 := hK0.tn hk42
 replace ho14 := ho14.keep hk42 nk
 replace ho17 := ho17.keep hk42 nk
 refine Op_ [(0, pt r),(3, nt ref),(6, pt b1),(13, pt b32),(42, .tuple #[.agg (Rfm.cells (getA (endR s rs ref 6 now) ref)).toArray, .bool ((getR (endR s rs ref 6 now) ref).isSome)])] <| Oq (u := .tuple #[.agg (Rfm.cells (getA (endR s rs ref 6 now) ref)).toArray, .bool ((getR (endR s rs ref 6 now) ref).isSome)]) (v := .tuple #[.agg (Rfm.cells (endY s (getA rs ref) ref 6 now)).toArray, .bool true]) 42 (by rw [hge2, hge1]; rfl) <| On 6 [0, 3, 6, 13, 43, 44] <| Alc_ 44 (.agg (Rfm.cells Rfm.zero).toArray) (Rfm.cells Rfm.zero) ?_
 intro b44 w44 e44 hb44 k44 z44
 have hsz45 := Keep.size k44
 replace hr := hr.k0 (hk42.tr k44)
 replace hb1 := hb1.k0 (hk42.tr k44)
 replace hb30 := hb30.k0 (hk42.tr k44)
 replace hb32_37 := hb32_37.k0 (hk42.tr k44)
 replace hA := hA.keep0 (hk42.tr k44)
 replace hl := hl.keep k44 nk
 replace hK0 := hK0.tn k44
 replace ho14 := ho14.keep k44 nk
 replace ho17 := ho17.keep k44 nk
 have hb44lt := hb44.lt
 refine Sg 0 (Rfm.cells (endY s (getA rs ref) ref 6 now)) hb44 (Rfm.len _) (Rfm.one _) ?_
 intro w46 hb44_49 hk47 hz48
 replace hb44_49 : Blk w46 b44 (Rfm.cells (endY s (getA rs ref) ref 6 now)) 44 := (Blk.eqL (Rfm.over _ _) hb44_49)
 have hsz50 := Keep.size hk47
 replace hr := hr.k1 hk47
 replace hb1 := hb1.k1 hk47
 replace hb30 := hb30.k1 hk47
 replace hb32_37 := hb32_37.k1 hk47
 replace hA := hA.keep hk47 (fun q hq hs => by have hs : q = b44 := hs; have g0 := hAr q hq; have g1 := hAlt q hq; omega)
 replace hl := hl.keep hk47 (fun q hq hs => by have hs : q = b44 := hs; have g0 := hlr q hq; have g1 := hGlt q hq; omega)
 replace hK0 := Keep.fr hK0 hk47
 replace ho14 := ho14.keep hk47 (fun q hq hs => by have hs : q = b44 := hs; have g0 := own22 q hq; have g1 := lt21 q hq; omega)
 replace ho17 := ho17.keep hk47 (fun q hq hs => by have hs : q = b44 := hs; have g0 := own26 q hq; have g1 := lt25 q hq; omega)
 refine On 9 [0, 3, 6, 13, 14] <| Oer <| On 2 [0, 3, 13, 14, 16] <| Oe <| V_seq <| Vr <| On 1 [0, 3, 13, 14, 16, 46] <| Lr 37 (.bool ((getA rs ref).put)) hb44_49 <| Oe <| Vb ((getA rs ref).put) (fun hc51 => ?_) (fun hc51 => ?_)
 ·
  refine V_region <| On 2 [0, 3, 13, 14, 16, 48, 49] <| Lr 36 (nt ((getA rs ref).by_)) hb44_49 <| Kg (kill1_spec (some ⟨b30, 0, none⟩) 1 [((Evt.mk 1 ref 6))] b32 b1 G l xs cs ((getA rs ref).by_) 10 _ hb32_37 hb1 (slt_blk hb30 Evt.len rfl) hl (fun q h => by have h1 := inA_some h; omega) (fun q h => by have h1 := hlr q h; have h2 := hGlt q h; omega) (fun q h1 h2 => by have h3 := inA_some h1; have h4 := hGlt q h2; omega) (by simp) (by omega)) ?_
  rintro _ w52 ⟨A54, cap54, rfl, hbo54, hA54, fr54, ⟨G54, ho54, hfr54, hdA54⟩, hk53⟩
  refine ⟨_, rfl, ?_⟩
  have hsz55 := Keep.size hk53
  replace hr := hr.keep hk53 (fun hs => by rcases hs with hs | hs | hs; (have u0 := hlr _ hs; have u1 := hGlt _ hs; omega); (have u0 : _ = b32 := hs; omega); (have u0 := inA_some hs; omega))
  replace hb1 := hb1.keep hk53 (fun hs => by rcases hs with hs | hs | hs; (have u0 := hlr _ hs; have u1 := hGlt _ hs; omega); (have u0 : _ = b32 := hs; omega); (have u0 := inA_some hs; omega))
  replace hb44_49 := hb44_49.keep hk53 (fun hs => by rcases hs with hs | hs | hs; (have u0 := hlr _ hs; have u1 := hGlt _ hs; omega); (have u0 : _ = b32 := hs; omega); (have u0 := inA_some hs; omega))
  replace hA := hA.keep hk53 (fun q hq hs => by rcases hs with hs | hs | hs; exact (fun q h1 h2 => hHG q (hAo q h1).1 h2) q hq hs; (have g0 := hAr q hq; have g1 := hAlt q hq; have u0 : q = b32 := hs; omega); (have g0 := hAr q hq; have g1 := hAlt q hq; have u0 := inA_some hs; omega))
  replace hK0 := Keep.fresh hK0 hk53 (fun i hi hs => by rcases hs with hs | hs | hs; (rcases hGr i hs with h | h; exact .inr <| .inr <| h; (exfalso; omega)); (exfalso; have hs : i = b32 := hs; omega); (exfalso; have hs := inA_some hs; omega))
  replace ho14 := ho14.keep hk53 (fun q hq hs => by rcases hs with hs | hs | hs; exact dis24 q hq hs; (have g0 := own22 q hq; have g1 := lt21 q hq; have u0 : q = b32 := hs; omega); (have g0 := own22 q hq; have g1 := lt21 q hq; have u0 := inA_some hs; omega))
  replace ho17 := ho17.keep hk53 (fun q hq hs => by rcases hs with hs | hs | hs; exact dis29 q hq hs; (have g0 := own26 q hq; have g1 := lt25 q hq; have u0 : q = b32 := hs; omega); (have g0 := own26 q hq; have g1 := lt25 q hq; have u0 := inA_some hs; omega))
  have hb32lt := hbo54.lt
  replace hbo54 : Blk w52 b32 [.slice A54 ([((Evt.mk 1 ref 6))] ++ [Evt.mk 6 ((getA rs ref).by_) (tkN xs ((getA rs ref).by_) 10)]).length cap54] 27 := by rw [List.length_append]; exact hbo54
  have own57 : ∀ q, G54 q → q ≠ r ∧ q ≠ r ∧ q ≠ b1 ∧ q ≠ b44 ∧ q ≠ b32 := fun q hq => by rcases hfr54 q hq with h | h; (have h1 := hlr q h; have h2 := hGlt q h; omega); omega
  have lt56 := Led.lt ho54
  have rel58 : ∀ q, G54 q → G q ∨ w.heap.size ≤ q := fun q hq => by rcases hfr54 q hq with h | h; exact hGr q h; exact .inr (by omega)
  have dis59 : ∀ q, G54 q → ¬ inA A q := fun q h1 h2 => by rcases hfr54 q h1 with h | h; exact (fun q h1 h2 => hHG q (hAo q h2).1 h1) q h h2; (have h4 := hAlt q h2; omega)
  have dis60 : ∀ q, G54 q → ¬ F13 q := fun q h1 h2 => by rcases hfr54 q h1 with h | h; exact dis24 q h2 h; (have h4 := lt21 q h2; omega)
  have dis61 : ∀ q, G54 q → ¬ F16 q := fun q h1 h2 => by rcases hfr54 q h1 with h | h; exact dis29 q h2 h; (have h4 := lt25 q h2; omega)
  have ltA54 := SlT.lt hA54
  have owA54 : ∀ q, inA A54 q → w.heap.size ≤ q ∧ q ≠ r ∧ q ≠ b1 ∧ q ≠ b44 ∧ q ≠ b32 := fun q hq => by rcases fr54 q hq with h | h; (have h8 := inA_some h; omega); omega
  have dis62 : ∀ q, inA A54 q → ¬ F13 q := fun q h1 h2 => by rcases fr54 q h1 with h | h; (have h3 := inA_some h; have h4 := lt21 q h2; have h5 := own22 q h2; omega); (have h4 := lt21 q h2; omega)
  have dis63 : ∀ q, inA A54 q → ¬ F16 q := fun q h1 h2 => by rcases fr54 q h1 with h | h; (have h3 := inA_some h; have h4 := lt25 q h2; have h5 := own26 q h2; omega); (have h4 := lt25 q h2; omega)
  have dis64 := hdA54
  refine Oe <| V_seq <| Vr <| On 1 [0, 3, 13, 14, 16, 52] <| Lr 38 (nt ((getA rs ref).backer)) hb44_49 <| Oen [0, 3, 13, 14, 16, 54] <| V_not ((getA rs ref).backer = -1) (by kernel_rfl) (fun hc65 => ?_) (fun hc65 => ?_)
  ·
   refine V_draws (acts [12]) none_ [[0, 1, 2, 3, 4, 5, 6, 7, 8, 9, 10, 11, 12]] (by kernel_rfl) (by repeat first | exact (by first | exact sure_body (by rintro _ _ ⟨_, _, h, _⟩; exact ⟨_, h⟩) | exact sure_body (by rintro _ _ ⟨_, _, h, _⟩; exact ⟨_, h⟩)) | refine sure_then ?_ | refine sure_block ?_ | refine sure_join ?_) (by kernel_rfl) ?_
   intro w67 hk66 he68 L hL69
   have hsz70 := Keep.size hk66
   replace hr := hr.k0 hk66
   replace hb1 := hb1.k0 hk66
   replace hb44_49 := hb44_49.k0 hk66
   replace hbo54 := hbo54.k0 hk66
   replace hA := hA.keep0 hk66
   replace hA54 := hA54.keep0 hk66
   replace hK0 := hK0.tn hk66
   replace ho14 := ho14.keep hk66 nk
   replace ho17 := ho17.keep hk66 nk
   replace ho54 := ho54.keep hk66 nk
   have qhr := hr
   have qhb44_49 := hb44_49
   have K71 : Keep none_ w67 w67 := Keep.refl _ _
   obtain rfl := List.mem_singleton.1 hL69
   refine Gn [2, 3, 4, 5, 6, 7, 8, 9, 10, 11, 12] [0, 3, 13, 14, 55, 56] <| Mr 38 (nt ((getA rs ref).backer)) qhb44_49 <| Gn [6, 7, 8, 9, 10, 11, 12] [0, 3, 13, 14, 55, 57, 60] <| Mr 0 (.slice A ts.length cap) qhr <| Gn [8, 9, 10, 11, 12] [0, 3, 13, 14, 55, 57, 61, 62] <| Gc0 3 (.tmp 62) 1 (nt ((getA rs ref).track)) (some 63) qhb44_49 rfl ?_
   obtain ⟨b72, o72, L72, T72, rfl, hat72⟩ := SlT.opn hA
   have hb72lt := hat72.blk.lt
   have hob73 := hAr b72 ⟨_, rfl, rfl⟩
   have hob74 := hAlt b72 ⟨_, rfl, rfl⟩
   have hne75 : ∀ q, F16 q → q ≠ b72 := fun q hq hs => dis28 q hq ⟨_, rfl, hs⟩
   have own76 := fun q hq => And.intro (own26 q hq) (hne75 q hq)
   have hne77 : ∀ q, G54 q → q ≠ b72 := fun q hq hs => dis59 q hq ⟨_, rfl, hs⟩
   have own78 := fun q hq => And.intro (own57 q hq) (hne77 q hq)
   refine Gp_ [(0, pt r),(3, nt ref),(13, pt b32),(14, pt b44),(55, .func (.func 89) #[] #[pt b32, pt b1]),(57, nt ((getA rs ref).backer)),(61, sl_ b72 o72 ts.length cap),(63, nt ((getA rs ref).track))] <| Gq_ (u := nt ((getA rs ref).track)) (v := nt (jt : Int)) 63 (by rw [hjt]) <| Gi (b := b72) (o := o72) (len := ts.length) (cap := cap) (j := jt) 80 18 144 .i64 <| Gn [11, 12] [0, 3, 13, 14, 55, 57, 65] <| Mc0 (o72 + jt * 18 + 1) (nt ((trkA ts (getA rs ref).track).deposit)) hat72.blk (At.cell hat72 (es_at htk) rfl) <| GI_final 12 (by kernel_rfl) (by kernel_rfl) <| Kg (kill1_spec A54 cap54 ([((Evt.mk 1 ref 6))] ++ [Evt.mk 6 ((getA rs ref).by_) (tkN xs ((getA rs ref).by_) 10)]) b32 b1 G54 l (slX xs ((getA rs ref).by_) 10) cs ((getA rs ref).backer) ((trkA ts (getA rs ref).track).deposit) _ hbo54 hb1 hA54 ho54 (fun q h => by have h1 := owA54 q h; have h2 := ltA54 q h; omega) (fun q h => by have h1 := own78 q h; have h2 := lt56 q h; omega) (fun q h1 h2 => dis64 q h1 h2) (by simp) (by omega)) ?_
   rintro _ w79 ⟨A81, cap81, rfl, hbo81, hA81, fr81, ⟨G81, ho81, hfr81, hdA81⟩, hk80⟩
   refine ⟨_, rfl, ?_⟩
   have hsz82 := Keep.size hk80
   replace hr := hr.keep hk80 (fun hs => by rcases hs with hs | hs | hs; (have u0 := own78 _ hs; have u1 := lt56 _ hs; omega); (have u0 : _ = b32 := hs; omega); (have u0 := owA54 _ hs; have u1 := ltA54 _ hs; omega))
   replace hb44_49 := hb44_49.keep hk80 (fun hs => by rcases hs with hs | hs | hs; (have u0 := own78 _ hs; have u1 := lt56 _ hs; omega); (have u0 : _ = b32 := hs; omega); (have u0 := owA54 _ hs; have u1 := ltA54 _ hs; omega))
   replace hK0 := Keep.fresh hK0 hk80 (fun i hi hs => by rcases hs with hs | hs | hs; (rcases rel58 i hs with h | h; exact .inr <| .inr <| h; (exfalso; omega)); (exfalso; have hs : i = b32 := hs; omega); (exfalso; have g0 := owA54 i hs; have g1 := ltA54 i hs; omega))
   replace ho14 := ho14.keep hk80 (fun q hq hs => by rcases hs with hs | hs | hs; exact dis60 q hs hq; (have g0 := own22 q hq; have g1 := lt21 q hq; have u0 : q = b32 := hs; omega); exact dis62 q hs hq)
   replace ho17 := ho17.keep hk80 (fun q hq hs => by rcases hs with hs | hs | hs; exact dis61 q hs hq; (have g0 := own76 q hq; have g1 := lt25 q hq; have u0 : q = b32 := hs; omega); exact dis63 q hs hq)
   have hb32lt := hbo81.lt
   replace hbo81 : Blk w79 b32 [.slice A81 (([((Evt.mk 1 ref 6))] ++ [Evt.mk 6 ((getA rs ref).by_) (tkN xs ((getA rs ref).by_) 10)]) ++ [Evt.mk 6 ((getA rs ref).backer) (tkN (slX xs ((getA rs ref).by_) 10) ((getA rs ref).backer) ((trkA ts (getA rs ref).track).deposit))]).length cap81] 27 := by rw [List.length_append]; exact hbo81
   have own84 : ∀ q, G81 q → q ≠ r ∧ q ≠ r ∧ q ≠ b1 ∧ q ≠ b44 ∧ q ≠ b32 := fun q hq => by rcases hfr81 q hq with h | h; (have h1 := own78 q h; have h2 := lt56 q h; omega); omega
   have lt83 := Led.lt ho81
   have rel85 : ∀ q, G81 q → G q ∨ w.heap.size ≤ q := fun q hq => by rcases hfr81 q hq with h | h; exact rel58 q h; exact .inr (by omega)
   have dis86 : ∀ q, G81 q → ¬ F13 q := fun q h1 h2 => by rcases hfr81 q h1 with h | h; exact dis60 q h h2; (have h4 := lt21 q h2; omega)
   have dis87 : ∀ q, G81 q → ¬ F16 q := fun q h1 h2 => by rcases hfr81 q h1 with h | h; exact dis61 q h h2; (have h4 := lt25 q h2; omega)
   have ltA81 := SlT.lt hA81
   have owA81 : ∀ q, inA A81 q → w.heap.size ≤ q ∧ q ≠ r ∧ q ≠ b1 ∧ q ≠ b44 ∧ q ≠ b32 := fun q hq => by rcases fr81 q hq with h | h; (have h8 := owA54 q h; have h9 := ltA54 q h; omega); omega
   have dis88 : ∀ q, inA A81 q → ¬ F13 q := fun q h1 h2 => by rcases fr81 q h1 with h | h; exact dis62 q h h2; (have h4 := lt21 q h2; omega)
   have dis89 : ∀ q, inA A81 q → ¬ F16 q := fun q h1 h2 => by rcases fr81 q h1 with h | h; exact dis63 q h h2; (have h4 := lt25 q h2; omega)
   have dis90 := hdA81
   refine Oer <| On 1 [0, 3, 13, 14, 68] <| St_ 37 (.bool false) hb44_49 ?_
   intro w91 hb44_94 hk92 hz93
   replace hb44_94 : Blk w91 b44 (Rfm.cells { (endY s (getA rs ref) ref 6 now) with put := false }) 44 := (Blk.eqL (by kernel_rfl) hb44_94)
   have hsz95 := Keep.size hk92
   replace hr := hr.k1 hk92
   replace hbo81 := hbo81.k1 hk92
   replace hA81 := hA81.keep hk92 (fun q hq hs => by have hs : q = b44 := hs; have g0 := owA81 q hq; have g1 := ltA81 q hq; omega)
   replace hK0 := Keep.fr hK0 hk92
   replace ho14 := ho14.keep hk92 (fun q hq hs => by have hs : q = b44 := hs; have g0 := own22 q hq; have g1 := lt21 q hq; omega)
   replace ho17 := ho17.keep hk92 (fun q hq hs => by have hs : q = b44 := hs; have g0 := own76 q hq; have g1 := lt25 q hq; omega)
   replace ho81 := ho81.keep hk92 (fun q hq hs => by have hs : q = b44 := hs; have g0 := own84 q hq; have g1 := lt83 q hq; omega)
   refine On 3 [0, 3, 13, 14, 69] <| St_ 38 (nt (-1)) hb44_94 ?_
   intro w96 hb44_99 hk97 hz98
   replace hb44_99 : Blk w96 b44 (Rfm.cells { (endY s (getA rs ref) ref 6 now) with put := false, backer := -1 }) 44 := (Blk.eqL (by kernel_rfl) hb44_99)
   have hsz100 := Keep.size hk97
   replace hr := hr.k1 hk97
   replace hbo81 := hbo81.k1 hk97
   replace hA81 := hA81.keep hk97 (fun q hq hs => by have hs : q = b44 := hs; have g0 := owA81 q hq; have g1 := ltA81 q hq; omega)
   replace hK0 := Keep.fr hK0 hk97
   replace ho14 := ho14.keep hk97 (fun q hq hs => by have hs : q = b44 := hs; have g0 := own22 q hq; have g1 := lt21 q hq; omega)
   replace ho17 := ho17.keep hk97 (fun q hq hs => by have hs : q = b44 := hs; have g0 := own76 q hq; have g1 := lt25 q hq; omega)
   replace ho81 := ho81.keep hk97 (fun q hq hs => by have hs : q = b44 := hs; have g0 := own84 q hq; have g1 := lt83 q hq; omega)
   refine Oe <| V_seq <| V_draws (acts [6]) none_ [[0, 1, 2, 3, 4, 5, 6]] (by kernel_rfl) (by repeat first | exact (by first | exact sure_body (by rintro _ _ ⟨_, _, h, _⟩; exact ⟨_, h⟩) | exact sure_body (by rintro _ _ ⟨_, _, h, _⟩; exact ⟨_, h⟩)) | refine sure_then ?_ | refine sure_block ?_ | refine sure_join ?_) (by kernel_rfl) ?_
   intro w102 hk101 he103 L hL104
   have hsz105 := Keep.size hk101
   replace hr := hr.k0 hk101
   replace hb44_99 := hb44_99.k0 hk101
   replace hbo81 := hbo81.k0 hk101
   replace hA81 := hA81.keep0 hk101
   replace hK0 := hK0.tn hk101
   replace ho14 := ho14.keep hk101 nk
   replace ho17 := ho17.keep hk101 nk
   replace ho81 := ho81.keep hk101 nk
   have qhr := hr
   have qhb44_99 := hb44_99
   have K106 : Keep none_ w102 w102 := Keep.refl _ _
   obtain rfl := List.mem_singleton.1 hL104
   refine Gn [3, 4, 5, 6] [3, 13, 14, 72] <| Mr 1 (pt g) qhr <| Gn [5, 6] [13, 14, 73, 74] <| Ma 0 (Rfm.cells { (endY s (getA rs ref) ref 6 now) with put := false, backer := -1 }) 45 qhb44_99 id (take_all (Rfm.len _)) (Rfm.len _) <| GI_final 6 (by kernel_rfl) (by kernel_rfl) <| Kg (rset_spec F13 r g ts (endR s rs ref 6 now) ref ({ (endY s (getA rs ref) ref 6 now) with put := false, backer := -1 }) _ ho14 (by rw [hge3]; exact href) htr) ?_
   rintro _ w111 ⟨rfl, ⟨H113, hR114, hfr115⟩, hk112⟩
   refine ⟨_, rfl, ?_⟩
   have hsz116 := Keep.size hk112
   replace hbo81 := hbo81.keep hk112 (fun hs => by have h1 := hgo _ hs; have h2 := hgl _ hs; omega)
   replace hA81 := hA81.keep hk112 (fun q hq hs => (fun q h1 h2 => (fun q h1 h2 => dis88 q h2 h1) q (by rw [show q = g from h1]; exact (Rfr.atg ho14)) h2) q hs hq)
   replace hK0 := Keep.fresh hK0 hk112 (by intro i hi hs; first | exact hs | (exfalso; have h1 := hgo i hs; have h2 := hgl i hs; omega) | (have h1 := hgo i hs; have h2 := hgl i hs; show _ ∨ _; omega))
   replace ho17 := ho17.keep hk112 (fun q hq hs => (fun q h1 h2 => hdis19 q (by rw [show q = g from h1]; exact (Rfr.atg ho14)) h2) q hs hq)
   replace ho81 := ho81.keep hk112 (fun q hq hs => (fun q h1 h2 => (fun q h1 h2 => dis86 q h2 h1) q (by rw [show q = g from h1]; exact (Rfr.atg ho14)) h2) q hs hq)
   have own118 : ∀ q, H113 q → 0 ≤ q ∧ q ≠ b44 ∧ q ≠ b32 := fun q hq => by rcases hfr115 q hq with h | h; (have h1 := own22 q h; have h2 := lt21 q h; omega); omega
   have lt117 := Rfr.lt hR114
   have rel119 : ∀ q, H113 q → H q ∨ w.heap.size ≤ q := fun q hq => by rcases hfr115 q hq with h | h; exact rel23 q h; exact .inr (by omega)
   have dis120 : ∀ q, H113 q → ¬ inA A81 q := fun q h1 h2 => by rcases hfr115 q h1 with h | h; exact dis88 q h2 h; (have h4 := ltA81 q h2; omega)
   have dis121 : ∀ q, H113 q → ¬ F16 q := fun q h1 h2 => by rcases hfr115 q h1 with h | h; exact hdis19 q h h2; (have h4 := lt25 q h2; omega)
   have dis122 : ∀ q, H113 q → ¬ G81 q := fun q h1 h2 => by rcases hfr115 q h1 with h | h; exact dis86 q h2 h; (have h4 := lt83 q h2; omega)
   refine Oer <| Lr 0 (.slice A81 ((([((Evt.mk 1 ref 6))] ++ [Evt.mk 6 ((getA rs ref).by_) (tkN xs ((getA rs ref).by_) 10)]) ++ [Evt.mk 6 ((getA rs ref).backer) (tkN (slX xs ((getA rs ref).by_) 10) ((getA rs ref).backer) ((trkA ts (getA rs ref).track).deposit))]).length) cap81) hbo81 <| Oen [10, 11] <| V_ret ?_
   obtain ⟨h1123, h2123, h3123, h4123⟩ := kil_go (xs := xs) (s := s) (ts := ts) (now := now) hong
   have hp123 : (getA rs ref).put = true := hc51
   have hb123 : (getA rs ref).backer ≠ -1 := hc65
   have h5123 : kilX xs ts rs ref = (slX (slX xs ((getA rs ref).by_) 10) ((getA rs ref).backer) ((trkA ts (getA rs ref).track).deposit)) := by rw [h1123]; unfold kilX2 kilX1; rw [hp123, if_pos hb123]; rfl
   have h6123 : kilR s rs ref now = ((endR s rs ref 6 now).set ref.toNat ({ (endY s (getA rs ref) ref 6 now) with put := false, backer := -1 })) := by rw [h3123]; unfold endR; rw [List.set_set]
   have h7123 : kilL xs ts rs ref = (([((Evt.mk 1 ref 6))] ++ [Evt.mk 6 ((getA rs ref).by_) (tkN xs ((getA rs ref).by_) 10)]) ++ [Evt.mk 6 ((getA rs ref).backer) (tkN (slX xs ((getA rs ref).by_) 10) ((getA rs ref).backer) ((trkA ts (getA rs ref).track).deposit))]) := by rw [h4123]; unfold kilL2 kilL1 kilX1; rw [hp123, if_pos hb123]; rfl
   exact Xr (.tuple #[.slice A81 ((([((Evt.mk 1 ref 6))] ++ [Evt.mk 6 ((getA rs ref).by_) (tkN xs ((getA rs ref).by_) 10)]) ++ [Evt.mk 6 ((getA rs ref).backer) (tkN (slX xs ((getA rs ref).by_) 10) ((getA rs ref).backer) ((trkA ts (getA rs ref).track).deposit))]).length) cap81, nt 0]) ⟨A81, cap81, by rw [h7123, hong], by rw [h7123]; exact hA81, (fun q h => (owA81 q h).1), ⟨H113, F16, G81, (by rw [h6123]; exact hR114),(by rw [h2123]; exact ho17),(by rw [h5123]; exact ho81), rel119, rel27, rel85, dis121, dis122, (fun q h1 h2 => dis87 q h2 h1),((fun q h1 h2 => dis120 q h2 h1)),(dis89),(dis90)⟩, hK0⟩
  refine Vsk <| Vr <| On 1 [0, 3, 13, 14, 68] <| St_ 37 (.bool false) hb44_49 ?_
  intro w124 hb44_127 hk125 hz126
  replace hb44_127 : Blk w124 b44 (Rfm.cells { (endY s (getA rs ref) ref 6 now) with put := false }) 44 := (Blk.eqL (by kernel_rfl) hb44_127)
  have hsz128 := Keep.size hk125
  replace hr := hr.k1 hk125
  replace hbo54 := hbo54.k1 hk125
  replace hA54 := hA54.keep hk125 (fun q hq hs => by have hs : q = b44 := hs; have g0 := owA54 q hq; have g1 := ltA54 q hq; omega)
  replace hK0 := Keep.fr hK0 hk125
  replace ho14 := ho14.keep hk125 (fun q hq hs => by have hs : q = b44 := hs; have g0 := own22 q hq; have g1 := lt21 q hq; omega)
  replace ho17 := ho17.keep hk125 (fun q hq hs => by have hs : q = b44 := hs; have g0 := own26 q hq; have g1 := lt25 q hq; omega)
  replace ho54 := ho54.keep hk125 (fun q hq hs => by have hs : q = b44 := hs; have g0 := own57 q hq; have g1 := lt56 q hq; omega)
  refine On 3 [0, 3, 13, 14, 69] <| St_ 38 (nt (-1)) hb44_127 ?_
  intro w129 hb44_132 hk130 hz131
  replace hb44_132 : Blk w129 b44 (Rfm.cells { (endY s (getA rs ref) ref 6 now) with put := false, backer := -1 }) 44 := (Blk.eqL (by kernel_rfl) hb44_132)
  have hsz133 := Keep.size hk130
  replace hr := hr.k1 hk130
  replace hbo54 := hbo54.k1 hk130
  replace hA54 := hA54.keep hk130 (fun q hq hs => by have hs : q = b44 := hs; have g0 := owA54 q hq; have g1 := ltA54 q hq; omega)
  replace hK0 := Keep.fr hK0 hk130
  replace ho14 := ho14.keep hk130 (fun q hq hs => by have hs : q = b44 := hs; have g0 := own22 q hq; have g1 := lt21 q hq; omega)
  replace ho17 := ho17.keep hk130 (fun q hq hs => by have hs : q = b44 := hs; have g0 := own26 q hq; have g1 := lt25 q hq; omega)
  replace ho54 := ho54.keep hk130 (fun q hq hs => by have hs : q = b44 := hs; have g0 := own57 q hq; have g1 := lt56 q hq; omega)
  refine Oe <| V_seq <| V_draws (acts [6]) none_ [[0, 1, 2, 3, 4, 5, 6]] (by kernel_rfl) (by repeat first | exact (by first | exact sure_body (by rintro _ _ ⟨_, _, h, _⟩; exact ⟨_, h⟩) | exact sure_body (by rintro _ _ ⟨_, _, h, _⟩; exact ⟨_, h⟩)) | refine sure_then ?_ | refine sure_block ?_ | refine sure_join ?_) (by kernel_rfl) ?_
  intro w135 hk134 he136 L hL137
  have hsz138 := Keep.size hk134
  replace hr := hr.k0 hk134
  replace hb44_132 := hb44_132.k0 hk134
  replace hbo54 := hbo54.k0 hk134
  replace hA54 := hA54.keep0 hk134
  replace hK0 := hK0.tn hk134
  replace ho14 := ho14.keep hk134 nk
  replace ho17 := ho17.keep hk134 nk
  replace ho54 := ho54.keep hk134 nk
  have qhr := hr
  have qhb44_132 := hb44_132
  have K139 : Keep none_ w135 w135 := Keep.refl _ _
  obtain rfl := List.mem_singleton.1 hL137
  refine Gn [3, 4, 5, 6] [3, 13, 14, 72] <| Mr 1 (pt g) qhr <| Gn [5, 6] [13, 14, 73, 74] <| Ma 0 (Rfm.cells { (endY s (getA rs ref) ref 6 now) with put := false, backer := -1 }) 45 qhb44_132 id (take_all (Rfm.len _)) (Rfm.len _) <| GI_final 6 (by kernel_rfl) (by kernel_rfl) <| Kg (rset_spec F13 r g ts (endR s rs ref 6 now) ref ({ (endY s (getA rs ref) ref 6 now) with put := false, backer := -1 }) _ ho14 (by rw [hge3]; exact href) htr) ?_
  rintro _ w144 ⟨rfl, ⟨H146, hR147, hfr148⟩, hk145⟩
  refine ⟨_, rfl, ?_⟩
  have hsz149 := Keep.size hk145
  replace hbo54 := hbo54.keep hk145 (fun hs => by have h1 := hgo _ hs; have h2 := hgl _ hs; omega)
  replace hA54 := hA54.keep hk145 (fun q hq hs => (fun q h1 h2 => (fun q h1 h2 => dis62 q h2 h1) q (by rw [show q = g from h1]; exact (Rfr.atg ho14)) h2) q hs hq)
  replace hK0 := Keep.fresh hK0 hk145 (by intro i hi hs; first | exact hs | (exfalso; have h1 := hgo i hs; have h2 := hgl i hs; omega) | (have h1 := hgo i hs; have h2 := hgl i hs; show _ ∨ _; omega))
  replace ho17 := ho17.keep hk145 (fun q hq hs => (fun q h1 h2 => hdis19 q (by rw [show q = g from h1]; exact (Rfr.atg ho14)) h2) q hs hq)
  replace ho54 := ho54.keep hk145 (fun q hq hs => (fun q h1 h2 => (fun q h1 h2 => dis60 q h2 h1) q (by rw [show q = g from h1]; exact (Rfr.atg ho14)) h2) q hs hq)
  have own151 : ∀ q, H146 q → 0 ≤ q ∧ q ≠ b44 ∧ q ≠ b32 := fun q hq => by rcases hfr148 q hq with h | h; (have h1 := own22 q h; have h2 := lt21 q h; omega); omega
  have lt150 := Rfr.lt hR147
  have rel152 : ∀ q, H146 q → H q ∨ w.heap.size ≤ q := fun q hq => by rcases hfr148 q hq with h | h; exact rel23 q h; exact .inr (by omega)
  have dis153 : ∀ q, H146 q → ¬ inA A54 q := fun q h1 h2 => by rcases hfr148 q h1 with h | h; exact dis62 q h2 h; (have h4 := ltA54 q h2; omega)
  have dis154 : ∀ q, H146 q → ¬ F16 q := fun q h1 h2 => by rcases hfr148 q h1 with h | h; exact hdis19 q h h2; (have h4 := lt25 q h2; omega)
  have dis155 : ∀ q, H146 q → ¬ G54 q := fun q h1 h2 => by rcases hfr148 q h1 with h | h; exact dis60 q h2 h; (have h4 := lt56 q h2; omega)
  refine Oer <| Lr 0 (.slice A54 (([((Evt.mk 1 ref 6))] ++ [Evt.mk 6 ((getA rs ref).by_) (tkN xs ((getA rs ref).by_) 10)]).length) cap54) hbo54 <| Oen [10, 11] <| V_ret ?_
  obtain ⟨h1156, h2156, h3156, h4156⟩ := kil_go (xs := xs) (s := s) (ts := ts) (now := now) hong
  have hp156 : (getA rs ref).put = true := hc51
  have hb156 : ¬ (getA rs ref).backer ≠ -1 := fun h => h hc65
  have h5156 : kilX xs ts rs ref = (slX xs ((getA rs ref).by_) 10) := by rw [h1156]; unfold kilX2 kilX1; rw [hp156, if_neg hb156]; rfl
  have h6156 : kilR s rs ref now = ((endR s rs ref 6 now).set ref.toNat ({ (endY s (getA rs ref) ref 6 now) with put := false, backer := -1 })) := by rw [h3156]; unfold endR; rw [List.set_set]
  have h7156 : kilL xs ts rs ref = ([((Evt.mk 1 ref 6))] ++ [Evt.mk 6 ((getA rs ref).by_) (tkN xs ((getA rs ref).by_) 10)]) := by rw [h4156]; unfold kilL2 kilL1 kilX1; rw [hp156, if_neg hb156]; rfl
  exact Xr (.tuple #[.slice A54 (([((Evt.mk 1 ref 6))] ++ [Evt.mk 6 ((getA rs ref).by_) (tkN xs ((getA rs ref).by_) 10)]).length) cap54, nt 0]) ⟨A54, cap54, by rw [h7156, hong], by rw [h7156]; exact hA54, (fun q h => (owA54 q h).1), ⟨H146, F16, G54, (by rw [h6156]; exact hR147),(by rw [h2156]; exact ho17),(by rw [h5156]; exact ho54), rel152, rel27, rel58, dis154, dis155, (fun q h1 h2 => dis61 q h2 h1),((fun q h1 h2 => dis153 q h2 h1)),(dis63),(dis64)⟩, hK0⟩
 refine Vsk <| V_seq <| Vr <| On 1 [0, 3, 13, 14, 16, 52] <| Lr 38 (nt ((getA rs ref).backer)) hb44_49 <| Oen [0, 3, 13, 14, 16, 54] <| V_not ((getA rs ref).backer = -1) (by kernel_rfl) (fun hc157 => ?_) (fun hc157 => ?_)
 ·
  refine V_draws (acts [12]) none_ [[0, 1, 2, 3, 4, 5, 6, 7, 8, 9, 10, 11, 12]] (by kernel_rfl) (by repeat first | exact (by first | exact sure_body (by rintro _ _ ⟨_, _, h, _⟩; exact ⟨_, h⟩) | exact sure_body (by rintro _ _ ⟨_, _, h, _⟩; exact ⟨_, h⟩)) | refine sure_then ?_ | refine sure_block ?_ | refine sure_join ?_) (by kernel_rfl) ?_
  intro w159 hk158 he160 L hL161
  have hsz162 := Keep.size hk158
  replace hr := hr.k0 hk158
  replace hb1 := hb1.k0 hk158
  replace hb30 := hb30.k0 hk158
  replace hb32_37 := hb32_37.k0 hk158
  replace hb44_49 := hb44_49.k0 hk158
  replace hA := hA.keep0 hk158
  replace hl := hl.keep hk158 nk
  replace hK0 := hK0.tn hk158
  replace ho14 := ho14.keep hk158 nk
  replace ho17 := ho17.keep hk158 nk
  have qhr := hr
  have qhb44_49 := hb44_49
  have K163 : Keep none_ w159 w159 := Keep.refl _ _
  obtain rfl := List.mem_singleton.1 hL161
  refine Gn [2, 3, 4, 5, 6, 7, 8, 9, 10, 11, 12] [0, 3, 13, 14, 55, 56] <| Mr 38 (nt ((getA rs ref).backer)) qhb44_49 <| Gn [6, 7, 8, 9, 10, 11, 12] [0, 3, 13, 14, 55, 57, 60] <| Mr 0 (.slice A ts.length cap) qhr <| Gn [8, 9, 10, 11, 12] [0, 3, 13, 14, 55, 57, 61, 62] <| Gc0 3 (.tmp 62) 1 (nt ((getA rs ref).track)) (some 63) qhb44_49 rfl ?_
  obtain ⟨b164, o164, L164, T164, rfl, hat164⟩ := SlT.opn hA
  have hb164lt := hat164.blk.lt
  have hob165 := hAr b164 ⟨_, rfl, rfl⟩
  have hob166 := hAlt b164 ⟨_, rfl, rfl⟩
  have hne167 : ∀ q, G q → q ≠ b164 := fun q hq hs => (fun q h1 h2 => hHG q (hAo q h2).1 h1) q hq ⟨_, rfl, hs⟩
  have own168 := fun q hq => And.intro (hlr q hq) (hne167 q hq)
  have hne169 : ∀ q, F16 q → q ≠ b164 := fun q hq hs => dis28 q hq ⟨_, rfl, hs⟩
  have own170 := fun q hq => And.intro (own26 q hq) (hne169 q hq)
  refine Gp_ [(0, pt r),(3, nt ref),(13, pt b32),(14, pt b44),(55, .func (.func 89) #[] #[pt b32, pt b1]),(57, nt ((getA rs ref).backer)),(61, sl_ b164 o164 ts.length cap),(63, nt ((getA rs ref).track))] <| Gq_ (u := nt ((getA rs ref).track)) (v := nt (jt : Int)) 63 (by rw [hjt]) <| Gi (b := b164) (o := o164) (len := ts.length) (cap := cap) (j := jt) 80 18 144 .i64 <| Gn [11, 12] [0, 3, 13, 14, 55, 57, 65] <| Mc0 (o164 + jt * 18 + 1) (nt ((trkA ts (getA rs ref).track).deposit)) hat164.blk (At.cell hat164 (es_at htk) rfl) <| GI_final 12 (by kernel_rfl) (by kernel_rfl) <| Kg (kill1_spec (some ⟨b30, 0, none⟩) 1 [((Evt.mk 1 ref 6))] b32 b1 G l xs cs ((getA rs ref).backer) ((trkA ts (getA rs ref).track).deposit) _ hb32_37 hb1 (slt_blk hb30 Evt.len rfl) hl (fun q h => by have h1 := inA_some h; omega) (fun q h => by have h1 := own168 q h; have h2 := hGlt q h; omega) (fun q h1 h2 => by have h3 := inA_some h1; have h4 := hGlt q h2; omega) (by simp) (by omega)) ?_
  rintro _ w171 ⟨A173, cap173, rfl, hbo173, hA173, fr173, ⟨G173, ho173, hfr173, hdA173⟩, hk172⟩
  refine ⟨_, rfl, ?_⟩
  have hsz174 := Keep.size hk172
  replace hr := hr.keep hk172 (fun hs => by rcases hs with hs | hs | hs; (have u0 := own168 _ hs; have u1 := hGlt _ hs; omega); (have u0 : _ = b32 := hs; omega); (have u0 := inA_some hs; omega))
  replace hb44_49 := hb44_49.keep hk172 (fun hs => by rcases hs with hs | hs | hs; (have u0 := own168 _ hs; have u1 := hGlt _ hs; omega); (have u0 : _ = b32 := hs; omega); (have u0 := inA_some hs; omega))
  replace hK0 := Keep.fresh hK0 hk172 (fun i hi hs => by rcases hs with hs | hs | hs; (rcases hGr i hs with h | h; exact .inr <| .inr <| h; (exfalso; omega)); (exfalso; have hs : i = b32 := hs; omega); (exfalso; have hs := inA_some hs; omega))
  replace ho14 := ho14.keep hk172 (fun q hq hs => by rcases hs with hs | hs | hs; exact dis24 q hq hs; (have g0 := own22 q hq; have g1 := lt21 q hq; have u0 : q = b32 := hs; omega); (have g0 := own22 q hq; have g1 := lt21 q hq; have u0 := inA_some hs; omega))
  replace ho17 := ho17.keep hk172 (fun q hq hs => by rcases hs with hs | hs | hs; exact dis29 q hq hs; (have g0 := own170 q hq; have g1 := lt25 q hq; have u0 : q = b32 := hs; omega); (have g0 := own170 q hq; have g1 := lt25 q hq; have u0 := inA_some hs; omega))
  have hb32lt := hbo173.lt
  replace hbo173 : Blk w171 b32 [.slice A173 ([((Evt.mk 1 ref 6))] ++ [Evt.mk 6 ((getA rs ref).backer) (tkN xs ((getA rs ref).backer) ((trkA ts (getA rs ref).track).deposit))]).length cap173] 27 := by rw [List.length_append]; exact hbo173
  have own176 : ∀ q, G173 q → q ≠ r ∧ q ≠ r ∧ q ≠ b1 ∧ q ≠ b44 ∧ q ≠ b32 := fun q hq => by rcases hfr173 q hq with h | h; (have h1 := own168 q h; have h2 := hGlt q h; omega); omega
  have lt175 := Led.lt ho173
  have rel177 : ∀ q, G173 q → G q ∨ w.heap.size ≤ q := fun q hq => by rcases hfr173 q hq with h | h; exact hGr q h; exact .inr (by omega)
  have dis178 : ∀ q, G173 q → ¬ F13 q := fun q h1 h2 => by rcases hfr173 q h1 with h | h; exact dis24 q h2 h; (have h4 := lt21 q h2; omega)
  have dis179 : ∀ q, G173 q → ¬ F16 q := fun q h1 h2 => by rcases hfr173 q h1 with h | h; exact dis29 q h2 h; (have h4 := lt25 q h2; omega)
  have ltA173 := SlT.lt hA173
  have owA173 : ∀ q, inA A173 q → w.heap.size ≤ q ∧ q ≠ r ∧ q ≠ b1 ∧ q ≠ b44 ∧ q ≠ b32 := fun q hq => by rcases fr173 q hq with h | h; (have h8 := inA_some h; omega); omega
  have dis180 : ∀ q, inA A173 q → ¬ F13 q := fun q h1 h2 => by rcases fr173 q h1 with h | h; (have h3 := inA_some h; have h4 := lt21 q h2; have h5 := own22 q h2; omega); (have h4 := lt21 q h2; omega)
  have dis181 : ∀ q, inA A173 q → ¬ F16 q := fun q h1 h2 => by rcases fr173 q h1 with h | h; (have h3 := inA_some h; have h4 := lt25 q h2; have h5 := own170 q h2; omega); (have h4 := lt25 q h2; omega)
  have dis182 := hdA173
  refine Oer <| On 1 [0, 3, 13, 14, 68] <| St_ 37 (.bool false) hb44_49 ?_
  intro w183 hb44_186 hk184 hz185
  replace hb44_186 : Blk w183 b44 (Rfm.cells { (endY s (getA rs ref) ref 6 now) with put := false }) 44 := (Blk.eqL (by kernel_rfl) hb44_186)
  have hsz187 := Keep.size hk184
  replace hr := hr.k1 hk184
  replace hbo173 := hbo173.k1 hk184
  replace hA173 := hA173.keep hk184 (fun q hq hs => by have hs : q = b44 := hs; have g0 := owA173 q hq; have g1 := ltA173 q hq; omega)
  replace hK0 := Keep.fr hK0 hk184
  replace ho14 := ho14.keep hk184 (fun q hq hs => by have hs : q = b44 := hs; have g0 := own22 q hq; have g1 := lt21 q hq; omega)
  replace ho17 := ho17.keep hk184 (fun q hq hs => by have hs : q = b44 := hs; have g0 := own170 q hq; have g1 := lt25 q hq; omega)
  replace ho173 := ho173.keep hk184 (fun q hq hs => by have hs : q = b44 := hs; have g0 := own176 q hq; have g1 := lt175 q hq; omega)
  refine On 3 [0, 3, 13, 14, 69] <| St_ 38 (nt (-1)) hb44_186 ?_
  intro w188 hb44_191 hk189 hz190
  replace hb44_191 : Blk w188 b44 (Rfm.cells { (endY s (getA rs ref) ref 6 now) with put := false, backer := -1 }) 44 := (Blk.eqL (by kernel_rfl) hb44_191)
  have hsz192 := Keep.size hk189
  replace hr := hr.k1 hk189
  replace hbo173 := hbo173.k1 hk189
  replace hA173 := hA173.keep hk189 (fun q hq hs => by have hs : q = b44 := hs; have g0 := owA173 q hq; have g1 := ltA173 q hq; omega)
  replace hK0 := Keep.fr hK0 hk189
  replace ho14 := ho14.keep hk189 (fun q hq hs => by have hs : q = b44 := hs; have g0 := own22 q hq; have g1 := lt21 q hq; omega)
  replace ho17 := ho17.keep hk189 (fun q hq hs => by have hs : q = b44 := hs; have g0 := own170 q hq; have g1 := lt25 q hq; omega)
  replace ho173 := ho173.keep hk189 (fun q hq hs => by have hs : q = b44 := hs; have g0 := own176 q hq; have g1 := lt175 q hq; omega)
  refine Oe <| V_seq <| V_draws (acts [6]) none_ [[0, 1, 2, 3, 4, 5, 6]] (by kernel_rfl) (by repeat first | exact (by first | exact sure_body (by rintro _ _ ⟨_, _, h, _⟩; exact ⟨_, h⟩) | exact sure_body (by rintro _ _ ⟨_, _, h, _⟩; exact ⟨_, h⟩)) | refine sure_then ?_ | refine sure_block ?_ | refine sure_join ?_) (by kernel_rfl) ?_
  intro w194 hk193 he195 L hL196
  have hsz197 := Keep.size hk193
  replace hr := hr.k0 hk193
  replace hb44_191 := hb44_191.k0 hk193
  replace hbo173 := hbo173.k0 hk193
  replace hA173 := hA173.keep0 hk193
  replace hK0 := hK0.tn hk193
  replace ho14 := ho14.keep hk193 nk
  replace ho17 := ho17.keep hk193 nk
  replace ho173 := ho173.keep hk193 nk
  have qhr := hr
  have qhb44_191 := hb44_191
  have K198 : Keep none_ w194 w194 := Keep.refl _ _
  obtain rfl := List.mem_singleton.1 hL196
  refine Gn [3, 4, 5, 6] [3, 13, 14, 72] <| Mr 1 (pt g) qhr <| Gn [5, 6] [13, 14, 73, 74] <| Ma 0 (Rfm.cells { (endY s (getA rs ref) ref 6 now) with put := false, backer := -1 }) 45 qhb44_191 id (take_all (Rfm.len _)) (Rfm.len _) <| GI_final 6 (by kernel_rfl) (by kernel_rfl) <| Kg (rset_spec F13 r g ts (endR s rs ref 6 now) ref ({ (endY s (getA rs ref) ref 6 now) with put := false, backer := -1 }) _ ho14 (by rw [hge3]; exact href) htr) ?_
  rintro _ w203 ⟨rfl, ⟨H205, hR206, hfr207⟩, hk204⟩
  refine ⟨_, rfl, ?_⟩
  have hsz208 := Keep.size hk204
  replace hbo173 := hbo173.keep hk204 (fun hs => by have h1 := hgo _ hs; have h2 := hgl _ hs; omega)
  replace hA173 := hA173.keep hk204 (fun q hq hs => (fun q h1 h2 => (fun q h1 h2 => dis180 q h2 h1) q (by rw [show q = g from h1]; exact (Rfr.atg ho14)) h2) q hs hq)
  replace hK0 := Keep.fresh hK0 hk204 (by intro i hi hs; first | exact hs | (exfalso; have h1 := hgo i hs; have h2 := hgl i hs; omega) | (have h1 := hgo i hs; have h2 := hgl i hs; show _ ∨ _; omega))
  replace ho17 := ho17.keep hk204 (fun q hq hs => (fun q h1 h2 => hdis19 q (by rw [show q = g from h1]; exact (Rfr.atg ho14)) h2) q hs hq)
  replace ho173 := ho173.keep hk204 (fun q hq hs => (fun q h1 h2 => (fun q h1 h2 => dis178 q h2 h1) q (by rw [show q = g from h1]; exact (Rfr.atg ho14)) h2) q hs hq)
  have own210 : ∀ q, H205 q → 0 ≤ q ∧ q ≠ b44 ∧ q ≠ b32 := fun q hq => by rcases hfr207 q hq with h | h; (have h1 := own22 q h; have h2 := lt21 q h; omega); omega
  have lt209 := Rfr.lt hR206
  have rel211 : ∀ q, H205 q → H q ∨ w.heap.size ≤ q := fun q hq => by rcases hfr207 q hq with h | h; exact rel23 q h; exact .inr (by omega)
  have dis212 : ∀ q, H205 q → ¬ inA A173 q := fun q h1 h2 => by rcases hfr207 q h1 with h | h; exact dis180 q h2 h; (have h4 := ltA173 q h2; omega)
  have dis213 : ∀ q, H205 q → ¬ F16 q := fun q h1 h2 => by rcases hfr207 q h1 with h | h; exact hdis19 q h h2; (have h4 := lt25 q h2; omega)
  have dis214 : ∀ q, H205 q → ¬ G173 q := fun q h1 h2 => by rcases hfr207 q h1 with h | h; exact dis178 q h2 h; (have h4 := lt175 q h2; omega)
  refine Oer <| Lr 0 (.slice A173 (([((Evt.mk 1 ref 6))] ++ [Evt.mk 6 ((getA rs ref).backer) (tkN xs ((getA rs ref).backer) ((trkA ts (getA rs ref).track).deposit))]).length) cap173) hbo173 <| Oen [10, 11] <| V_ret ?_
  obtain ⟨h1215, h2215, h3215, h4215⟩ := kil_go (xs := xs) (s := s) (ts := ts) (now := now) hong
  have hp215 : (getA rs ref).put = false := hc51
  have hb215 : (getA rs ref).backer ≠ -1 := hc157
  have h5215 : kilX xs ts rs ref = (slX xs ((getA rs ref).backer) ((trkA ts (getA rs ref).track).deposit)) := by rw [h1215]; unfold kilX2 kilX1; rw [hp215, if_pos hb215]; rfl
  have h6215 : kilR s rs ref now = ((endR s rs ref 6 now).set ref.toNat ({ (endY s (getA rs ref) ref 6 now) with put := false, backer := -1 })) := by rw [h3215]; unfold endR; rw [List.set_set]
  have h7215 : kilL xs ts rs ref = ([((Evt.mk 1 ref 6))] ++ [Evt.mk 6 ((getA rs ref).backer) (tkN xs ((getA rs ref).backer) ((trkA ts (getA rs ref).track).deposit))]) := by rw [h4215]; unfold kilL2 kilL1 kilX1; rw [hp215, if_pos hb215]; rfl
  exact Xr (.tuple #[.slice A173 (([((Evt.mk 1 ref 6))] ++ [Evt.mk 6 ((getA rs ref).backer) (tkN xs ((getA rs ref).backer) ((trkA ts (getA rs ref).track).deposit))]).length) cap173, nt 0]) ⟨A173, cap173, by rw [h7215, hong], by rw [h7215]; exact hA173, (fun q h => (owA173 q h).1), ⟨H205, F16, G173, (by rw [h6215]; exact hR206),(by rw [h2215]; exact ho17),(by rw [h5215]; exact ho173), rel211, rel27, rel177, dis213, dis214, (fun q h1 h2 => dis179 q h2 h1),((fun q h1 h2 => dis212 q h2 h1)),(dis181),(dis182)⟩, hK0⟩
 refine Vsk <| Vr <| On 1 [0, 3, 13, 14, 68] <| St_ 37 (.bool false) hb44_49 ?_
 intro w216 hb44_219 hk217 hz218
 replace hb44_219 : Blk w216 b44 (Rfm.cells { (endY s (getA rs ref) ref 6 now) with put := false }) 44 := (Blk.eqL (by kernel_rfl) hb44_219)
 have hsz220 := Keep.size hk217
 replace hr := hr.k1 hk217
 replace hb30 := hb30.k1 hk217
 replace hb32_37 := hb32_37.k1 hk217
 replace hl := hl.keep hk217 (fun q hq hs => by have hs : q = b44 := hs; have g0 := hlr q hq; have g1 := hGlt q hq; omega)
 replace hK0 := Keep.fr hK0 hk217
 replace ho14 := ho14.keep hk217 (fun q hq hs => by have hs : q = b44 := hs; have g0 := own22 q hq; have g1 := lt21 q hq; omega)
 replace ho17 := ho17.keep hk217 (fun q hq hs => by have hs : q = b44 := hs; have g0 := own26 q hq; have g1 := lt25 q hq; omega)
 refine On 3 [0, 3, 13, 14, 69] <| St_ 38 (nt (-1)) hb44_219 ?_
 intro w221 hb44_224 hk222 hz223
 replace hb44_224 : Blk w221 b44 (Rfm.cells { (endY s (getA rs ref) ref 6 now) with put := false, backer := -1 }) 44 := (Blk.eqL (by kernel_rfl) hb44_224)
 have hsz225 := Keep.size hk222
 replace hr := hr.k1 hk222
 replace hb30 := hb30.k1 hk222
 replace hb32_37 := hb32_37.k1 hk222
 replace hl := hl.keep hk222 (fun q hq hs => by have hs : q = b44 := hs; have g0 := hlr q hq; have g1 := hGlt q hq; omega)
 replace hK0 := Keep.fr hK0 hk222
 replace ho14 := ho14.keep hk222 (fun q hq hs => by have hs : q = b44 := hs; have g0 := own22 q hq; have g1 := lt21 q hq; omega)
 replace ho17 := ho17.keep hk222 (fun q hq hs => by have hs : q = b44 := hs; have g0 := own26 q hq; have g1 := lt25 q hq; omega)
 refine Oe <| V_seq <| V_draws (acts [6]) none_ [[0, 1, 2, 3, 4, 5, 6]] (by kernel_rfl) (by repeat first | exact (by first | exact sure_body (by rintro _ _ ⟨_, _, h, _⟩; exact ⟨_, h⟩) | exact sure_body (by rintro _ _ ⟨_, _, h, _⟩; exact ⟨_, h⟩)) | refine sure_then ?_ | refine sure_block ?_ | refine sure_join ?_) (by kernel_rfl) ?_
 intro w227 hk226 he228 L hL229
 have hsz230 := Keep.size hk226
 replace hr := hr.k0 hk226
 replace hb30 := hb30.k0 hk226
 replace hb32_37 := hb32_37.k0 hk226
 replace hb44_224 := hb44_224.k0 hk226
 replace hl := hl.keep hk226 nk
 replace hK0 := hK0.tn hk226
 replace ho14 := ho14.keep hk226 nk
 replace ho17 := ho17.keep hk226 nk
 have qhr := hr
 have qhb44_224 := hb44_224
 have K231 : Keep none_ w227 w227 := Keep.refl _ _
 obtain rfl := List.mem_singleton.1 hL229
 refine Gn [3, 4, 5, 6] [3, 13, 14, 72] <| Mr 1 (pt g) qhr <| Gn [5, 6] [13, 14, 73, 74] <| Ma 0 (Rfm.cells { (endY s (getA rs ref) ref 6 now) with put := false, backer := -1 }) 45 qhb44_224 id (take_all (Rfm.len _)) (Rfm.len _) <| GI_final 6 (by kernel_rfl) (by kernel_rfl) <| Kg (rset_spec F13 r g ts (endR s rs ref 6 now) ref ({ (endY s (getA rs ref) ref 6 now) with put := false, backer := -1 }) _ ho14 (by rw [hge3]; exact href) htr) ?_
 rintro _ w236 ⟨rfl, ⟨H238, hR239, hfr240⟩, hk237⟩
 refine ⟨_, rfl, ?_⟩
 have hsz241 := Keep.size hk237
 replace hb30 := hb30.keep hk237 (fun hs => by have h1 := hgo _ hs; have h2 := hgl _ hs; omega)
 replace hb32_37 := hb32_37.keep hk237 (fun hs => by have h1 := hgo _ hs; have h2 := hgl _ hs; omega)
 replace hl := hl.keep hk237 (fun q hq hs => (fun q h1 h2 => dis24 q (by rw [show q = g from h1]; exact (Rfr.atg ho14)) h2) q hs hq)
 replace hK0 := Keep.fresh hK0 hk237 (by intro i hi hs; first | exact hs | (exfalso; have h1 := hgo i hs; have h2 := hgl i hs; omega) | (have h1 := hgo i hs; have h2 := hgl i hs; show _ ∨ _; omega))
 replace ho17 := ho17.keep hk237 (fun q hq hs => (fun q h1 h2 => hdis19 q (by rw [show q = g from h1]; exact (Rfr.atg ho14)) h2) q hs hq)
 have own243 : ∀ q, H238 q → 0 ≤ q ∧ q ≠ b30 ∧ q ≠ b32 ∧ q ≠ b44 := fun q hq => by rcases hfr240 q hq with h | h; (have h1 := own22 q h; have h2 := lt21 q h; omega); omega
 have lt242 := Rfr.lt hR239
 have rel244 : ∀ q, H238 q → H q ∨ w.heap.size ≤ q := fun q hq => by rcases hfr240 q hq with h | h; exact rel23 q h; exact .inr (by omega)
 have dis245 : ∀ q, H238 q → ¬ G q := fun q h1 h2 => by rcases hfr240 q h1 with h | h; exact dis24 q h h2; (have h4 := hGlt q h2; omega)
 have dis246 : ∀ q, H238 q → ¬ F16 q := fun q h1 h2 => by rcases hfr240 q h1 with h | h; exact hdis19 q h h2; (have h4 := lt25 q h2; omega)
 refine Oer <| Lr 0 (sl_ b30 0 1 1) hb32_37 <| Oen [10, 11] <| V_ret ?_
 obtain ⟨h1247, h2247, h3247, h4247⟩ := kil_go (xs := xs) (s := s) (ts := ts) (now := now) hong
 have hp247 : (getA rs ref).put = false := hc51
 have hb247 : ¬ (getA rs ref).backer ≠ -1 := fun h => h hc157
 have h5247 : kilX xs ts rs ref = xs := by rw [h1247]; unfold kilX2 kilX1; rw [hp247, if_neg hb247]; rfl
 have h6247 : kilR s rs ref now = ((endR s rs ref 6 now).set ref.toNat ({ (endY s (getA rs ref) ref 6 now) with put := false, backer := -1 })) := by rw [h3247]; unfold endR; rw [List.set_set]
 have h7247 : kilL xs ts rs ref = [Evt.mk 1 ref 6] := by rw [h4247]; unfold kilL2 kilL1 kilX1; rw [hp247, if_neg hb247]; rfl
 exact Xr (.tuple #[sl_ b30 0 1 1, nt 0]) ⟨(some ⟨b30, 0, none⟩), 1, by rw [h7247, hong]; rfl, by rw [h7247]; exact slt_blk hb30 Evt.len rfl, (fun q h => by have h3 := inA_some h; omega), ⟨H238, F16, G, (by rw [h6247]; exact hR239),(by rw [h2247]; exact ho17),(by rw [h5247]; exact hl), rel244, rel27, hGr, dis246, dis245, dis29, fun q h1 h2 => by have h3 := inA_some h1; have h4 := lt242 q h2; have h5 := own243 q h2; omega, fun q h1 h2 => by have h3 := inA_some h1; have h4 := lt25 q h2; have h5 := own26 q h2; omega, fun q h1 h2 => by have h3 := inA_some h1; have h4 := hGlt q h2; have h5 := hlr q h2; omega⟩, hK0⟩
set_option maxHeartbeats 2000000 in
theorem kill_no (H : Nat → Prop) (r g : Nat) (ts : List Trk) (rs : List Rfm) (F : Nat → Prop) (v : Nat) (s : VS) (G : Nat → Prop) (l : Nat) (xs : List Acc) (cs : List Ci) (ref now : Int) (w : World) (hR : Rfr H w r g ts rs) (hV : VotT F w v s) (hl : Led G w l xs cs) (hHF : ∀ q, H q → ¬ F q) (hHG : ∀ q, H q → ¬ G q) (hFG : ∀ q, F q → ¬ G q) (hong : ¬ ongE rs ref = 0) : Calls Tryz.prog 63 #[pt r, pt l, pt v, nt ref, nt now] w fun e w' => ∃ A' cap', e = .returned (.tuple #[.slice A' (kilL xs ts rs ref).length cap', nt (ongE rs ref)]) ∧ SlT w' 3 Evt.cells A' cap' (kilL xs ts rs ref) ∧ (∀ q, inA A' q → w.heap.size ≤ q) ∧ (∃ H' F' G', Rfr H' w' r g ts (kilR s rs ref now) ∧ VotT F' w' v (kilS s rs ref now) ∧ Led G' w' l (kilX xs ts rs ref) cs ∧ (∀ q, H' q → H q ∨ w.heap.size ≤ q) ∧ (∀ q, F' q → F q ∨ w.heap.size ≤ q) ∧ (∀ q, G' q → G q ∨ w.heap.size ≤ q) ∧ (∀ q, H' q → ¬ F' q) ∧ (∀ q, H' q → ¬ G' q) ∧ (∀ q, F' q → ¬ G' q) ∧ (∀ q, inA A' q → ¬ H' q) ∧ (∀ q, inA A' q → ¬ F' q) ∧ (∀ q, inA A' q → ¬ G' q)) ∧ Keep (fun q => q = g ∨ F q ∨ G q) w w' := by
 have hHlt := Rfr.lt hR
 have hrH := Rfr.at_ hR
 have hgH := Rfr.atg hR
 have hrlt := hHlt _ hrH
 have hglt := hHlt _ hgH
 have hin := Rfr.inn hR
 obtain ⟨A, cap, hr, hA, hAo, hrg⟩ := Rfr.parts hR
 have hAlt := SlT.lt hA
 have hAr : ∀ q, inA A q → q ≠ r ∧ q ≠ g ∧ q < w.heap.size := fun q hq => ⟨(hAo q hq).2.1, (hAo q hq).2.2, hAlt q hq⟩
 have hgo : ∀ q, only g q → q ≠ r ∧ q = g := fun q hq => ⟨fun e => hrg (e.symm.trans hq), hq⟩
 have hgl : ∀ q, only g q → q < w.heap.size := fun q hq => by rw [show q = g from hq]; exact hglt
 have hHo : ∀ q, H q → 0 ≤ q := fun q _ => Nat.zero_le q
 have htl := hin.tl
 have hrl := hin.rl
 have hFlt := VotT.lt hV
 have hvlt := hFlt _ (VotT.at_ hV)
 have hVr : ∀ q, F q → q ≠ r := fun q hq e => hHF r hrH (e ▸ hq)
 have hGlt := Led.lt hl
 have hllt := hGlt _ (Led.at_ hl)
 have hlr : ∀ q, G q → q ≠ r := fun q hq e => hHG r hrH (e ▸ hq)
 have hinv := Led.inv hl
 have hHr : ∀ q, H q → H q ∨ w.heap.size ≤ q := fun _ h => .inl h
 have hFr : ∀ q, F q → F q ∨ w.heap.size ≤ q := fun _ h => .inl h
 have hGr : ∀ q, G q → G q ∨ w.heap.size ≤ q := fun _ h => .inl h
 have hK0 : Keep (fun q => q = g ∨ F q ∨ G q) w w := Keep.refl _ _
 refine eV ?_
 refine Vr <| Bx 31 [pt l] ?_
 intro b1 w1 e1 hb1 k1 z1
 have hsz2 := Keep.size k1
 replace hR := hR.keep k1 nk
 replace hV := hV.keep k1 nk
 replace hl := hl.keep k1 nk
 replace hK0 := hK0.tn k1
 have hb1lt := hb1.lt
 refine On 3 [0, 2, 3, 4, 6] <| Oe <| V_seq <| Vr <| On 3 [0, 2, 3, 4, 6, 19] <| Lr 0 (pt l) hb1 <| Oen [0, 2, 3, 4, 6, 26] <| Vf <| Vsk <| V_seq <| Vr <| On 2 [0, 2, 3, 4, 6, 27, 28] <| Kk (ongoing_spec H r g ts rs ref _ hR) fun w5 hk6 _ => ?_
 replace hR := hR.keep hk6 nk
 replace hV := hV.keep hk6 nk
 replace hl := hl.keep hk6 nk
 replace hK0 := hK0.tn hk6
 refine On 4 [0, 2, 3, 4, 6, 12] <| Oer <| Oen [0, 2, 3, 4, 6, 12, 31] <| Vq (u := .bool (!(decide (ongE rs ref = 0)))) (v := .bool true) 31 (by rw [decide_eq_false hong]; rfl) <| Vo <| Vn [10, 11] <| Rt ?_
 obtain ⟨_, _, _, h19, h29, h39, h49⟩ := can_no (s := s) (now := now) (xs := xs) (ts := ts) (rs := rs) (ref := ref) rfl hong
 exact Xr (.tuple #[.slice none 0 0, nt (ongE rs ref)]) ⟨none, 0, by rw [h49]; rfl, by rw [h49]; exact SlT.nil _ _ _, (fun q h => (inA_none h).elim), ⟨H, F, G, (by rw [h39]; exact hR),(by rw [h29]; exact hV),(by rw [h19]; exact hl), hHr, hFr, hGr, hHF, hHG, hFG, fun q h => (inA_none h).elim, fun q h => (inA_none h).elim, fun q h => (inA_none h).elim⟩, hK0⟩
theorem kill_spec (H : Nat → Prop) (r g : Nat) (ts : List Trk) (rs : List Rfm) (F : Nat → Prop) (v : Nat) (s : VS) (G : Nat → Prop) (l : Nat) (xs : List Acc) (cs : List Ci) (ref now : Int) (w : World) (hR : Rfr H w r g ts rs) (hV : VotT F w v s) (hl : Led G w l xs cs) (hHF : ∀ q, H q → ¬ F q) (hHG : ∀ q, H q → ¬ G q) (hFG : ∀ q, F q → ¬ G q) : Calls Tryz.prog 63 #[pt r, pt l, pt v, nt ref, nt now] w fun e w' => ∃ A' cap', e = .returned (.tuple #[.slice A' (kilL xs ts rs ref).length cap', nt (ongE rs ref)]) ∧ SlT w' 3 Evt.cells A' cap' (kilL xs ts rs ref) ∧ (∀ q, inA A' q → w.heap.size ≤ q) ∧ (∃ H' F' G', Rfr H' w' r g ts (kilR s rs ref now) ∧ VotT F' w' v (kilS s rs ref now) ∧ Led G' w' l (kilX xs ts rs ref) cs ∧ (∀ q, H' q → H q ∨ w.heap.size ≤ q) ∧ (∀ q, F' q → F q ∨ w.heap.size ≤ q) ∧ (∀ q, G' q → G q ∨ w.heap.size ≤ q) ∧ (∀ q, H' q → ¬ F' q) ∧ (∀ q, H' q → ¬ G' q) ∧ (∀ q, F' q → ¬ G' q) ∧ (∀ q, inA A' q → ¬ H' q) ∧ (∀ q, inA A' q → ¬ F' q) ∧ (∀ q, inA A' q → ¬ G' q)) ∧ Keep (fun q => q = g ∨ F q ∨ G q) w w' := by
  by_cases hong : ongE rs ref = 0
  · exact kill_go H r g ts rs F v s G l xs cs ref now w hR hV hl hHF hHG hFG hong
  · exact kill_no H r g ts rs F v s G l xs cs ref now w hR hV hl hHF hHG hFG hong
end Go.Al
namespace Go.Al
open Go Go.RowKit Go.Proofs
theorem r4In_spec (n lo hi : Int) (w : World) : Calls Tryz.prog 102 #[nt n, nt lo, nt hi] w fun e w' => e = .returned (.bool (decide (lo ≤ n ∧ n ≤ hi))) ∧ w' = w := by
 refine eV ?_
 refine Vr <| On 1 [0, 1, 2] <| Oer <| On 4 [0, 2, 10] ?_
 by_cases hg1 : n ≥ lo
 ·
  exact Dt 10 hg1 <| Oen [6] <| Rr (.bool (decide (n ≤ hi))) ⟨by congr 2; simp only [Bool.decide_and]; by_cases h1 : lo ≤ n <;> simp [h1] <;> omega, rfl⟩
 exact Df 10 hg1 <| Oen [6] <| Rr (.bool false) ⟨by congr 2; simp only [Bool.decide_and]; by_cases h1 : lo ≤ n <;> simp [h1] <;> omega, rfl⟩
theorem r10In_spec (n lo hi : Int) (w : World) : Calls Tryz.prog 73 #[nt n, nt lo, nt hi] w fun e w' => e = .returned (.bool (decide (lo ≤ n ∧ n ≤ hi))) ∧ w' = w := by
 refine eV ?_
 refine Vr <| On 1 [0, 1, 2] <| Oer <| On 4 [0, 2, 10] ?_
 by_cases hg1 : n ≥ lo
 ·
  exact Dt 10 hg1 <| Oen [6] <| Rr (.bool (decide (n ≤ hi))) ⟨by congr 2; simp only [Bool.decide_and]; by_cases h1 : lo ≤ n <;> simp [h1] <;> omega, rfl⟩
 exact Df 10 hg1 <| Oen [6] <| Rr (.bool false) ⟨by congr 2; simp only [Bool.decide_and]; by_cases h1 : lo ≤ n <;> simp [h1] <;> omega, rfl⟩
theorem r4Is_spec (c : Crv) (w : World) : Calls Tryz.prog 74 #[.agg c.cells.toArray] w fun e w' => e = .returned (.bool (decide (okCrv c))) ∧ Keep none_ w w' := by
 have hK0 := Keep.refl none_ w
 refine eV ?_
 refine Vr <| OI_box 78 (.tmp 0) (.agg (Crv.cells c).toArray) (Crv.cells c) (some 1) (by kernel_rfl) (by kernel_rfl) rfl ?_
 intro b1 w1 e1 hb1 k1 z1
 have hsz2 := Keep.size k1
 replace hK0 := hK0.tn k1
 have hb1lt := hb1.lt
 refine On 2 [1] <| Oe <| V_seq <| Vr <| On 1 [1, 3] <| Lr 0 (nt c.k) hb1 <| Oe <| V_block <| Vn [1, 4, 5] <| Vi (c.k = 1) (fun hc3 => ?_) (fun hc3 => ?_)
 ·
  refine Vr <| On 1 [1, 7] <| Lr 1 (nt c.a) hb1 <| Kq (r4In_spec c.a 0 1000000000 _) <| On 4 [1, 10] ?_
  by_cases hg7 : (0 : Int) ≤ c.a ∧ c.a ≤ 1000000000
  ·
   refine Dt 10 hg7 <| On 5 [1, 10, 11] <| Lr 2 (nt c.b) hb1 <| On 7 [1, 10, 12, 13] <| Lr 1 (nt c.a) hb1 <| Kq (r4In_spec c.b 0 c.a _) <| On 11 [1, 17] ?_
   by_cases hg11 : (0 : Int) ≤ c.b ∧ c.b ≤ c.a
   ·
    refine Dt 17 hg11 <| On 12 [1, 17, 18] <| Lr 3 (nt c.c) hb1 <| Kq (r4In_spec c.c 1 1000000000 _) <| On 16 [1, 22] ?_
    by_cases hg15 : (1 : Int) ≤ c.c ∧ c.c ≤ 1000000000
    ·
     exact Dt 22 hg15 <| On 17 [22, 23] <| Lr 4 (nt c.d) hb1 <| Oen [2] <| V_ret <| X_ret_block <| X_ret_then <| Xr (.bool (decide (c.d = 0))) ⟨by congr 2; first | (apply Eq.symm; (try simp only [decide_eq_true_eq]); (try simp only [decide_eq_false_iff_not]); unfold okCrv fallsC; simp_all <;> omega) | (rw [decide_eq_decide]; unfold okCrv fallsC; simp_all <;> omega), hK0⟩
    exact Df 22 hg15 <| Oen [2] <| V_ret <| X_ret_block <| X_ret_then <| Xr (.bool false) ⟨by congr 2; first | (apply Eq.symm; (try simp only [decide_eq_true_eq]); (try simp only [decide_eq_false_iff_not]); unfold okCrv fallsC; simp_all <;> omega) | (rw [decide_eq_decide]; unfold okCrv fallsC; simp_all <;> omega), hK0⟩
   exact Df 17 hg11 <| Oen [2] <| V_ret <| X_ret_block <| X_ret_then <| Xr (.bool false) ⟨by congr 2; first | (apply Eq.symm; (try simp only [decide_eq_true_eq]); (try simp only [decide_eq_false_iff_not]); unfold okCrv fallsC; simp_all <;> omega) | (rw [decide_eq_decide]; unfold okCrv fallsC; simp_all <;> omega), hK0⟩
  exact Df 10 hg7 <| Oen [2] <| V_ret <| X_ret_block <| X_ret_then <| Xr (.bool false) ⟨by congr 2; first | (apply Eq.symm; (try simp only [decide_eq_true_eq]); (try simp only [decide_eq_false_iff_not]); unfold okCrv fallsC; simp_all <;> omega) | (rw [decide_eq_decide]; unfold okCrv fallsC; simp_all <;> omega), hK0⟩
 refine Vn [1, 4, 27] <| Vi (c.k = 2) (fun hc16 => ?_) (fun hc16 => ?_)
 ·
  refine Vr <| On 1 [1, 29] <| Lr 1 (nt c.a) hb1 <| Kq (r4In_spec c.a 0 1000000000 _) <| On 4 [1, 32] ?_
  by_cases hg20 : (0 : Int) ≤ c.a ∧ c.a ≤ 1000000000
  ·
   refine Dt 32 hg20 <| On 5 [1, 32, 33] <| Lr 2 (nt c.b) hb1 <| On 7 [1, 32, 34, 35] <| Lr 1 (nt c.a) hb1 <| Kq (r4In_spec c.b 0 c.a _) <| On 11 [1, 39] ?_
   by_cases hg24 : (0 : Int) ≤ c.b ∧ c.b ≤ c.a
   ·
    refine Dt 39 hg24 <| On 12 [1, 39, 40] <| Lr 3 (nt c.c) hb1 <| Kq (r4In_spec c.c 1 1000000000 _) <| On 16 [1, 44] ?_
    by_cases hg28 : (1 : Int) ≤ c.c ∧ c.c ≤ 1000000000
    ·
     exact Dt 44 hg28 <| On 17 [44, 45] <| Lr 4 (nt c.d) hb1 <| Kq (r4In_spec c.d 1 1000000000 _) <| Oen [2] <| V_ret <| X_ret_block <| X_ret_then <| Xr (.bool (decide ((1 : Int) ≤ c.d ∧ c.d ≤ 1000000000))) ⟨by congr 2; first | (apply Eq.symm; (try simp only [decide_eq_true_eq]); (try simp only [decide_eq_false_iff_not]); unfold okCrv fallsC; simp_all <;> omega) | (rw [decide_eq_decide]; unfold okCrv fallsC; simp_all <;> omega), hK0⟩
    exact Df 44 hg28 <| Oen [2] <| V_ret <| X_ret_block <| X_ret_then <| Xr (.bool false) ⟨by congr 2; first | (apply Eq.symm; (try simp only [decide_eq_true_eq]); (try simp only [decide_eq_false_iff_not]); unfold okCrv fallsC; simp_all <;> omega) | (rw [decide_eq_decide]; unfold okCrv fallsC; simp_all <;> omega), hK0⟩
   exact Df 39 hg24 <| Oen [2] <| V_ret <| X_ret_block <| X_ret_then <| Xr (.bool false) ⟨by congr 2; first | (apply Eq.symm; (try simp only [decide_eq_true_eq]); (try simp only [decide_eq_false_iff_not]); unfold okCrv fallsC; simp_all <;> omega) | (rw [decide_eq_decide]; unfold okCrv fallsC; simp_all <;> omega), hK0⟩
  exact Df 32 hg20 <| Oen [2] <| V_ret <| X_ret_block <| X_ret_then <| Xr (.bool false) ⟨by congr 2; first | (apply Eq.symm; (try simp only [decide_eq_true_eq]); (try simp only [decide_eq_false_iff_not]); unfold okCrv fallsC; simp_all <;> omega) | (rw [decide_eq_decide]; unfold okCrv fallsC; simp_all <;> omega), hK0⟩
 refine Vn [1, 49] <| Vi (c.k = 3) (fun hc32 => ?_) (fun hc32 => ?_)
 ·
  refine Vr <| On 1 [1, 51] <| Lr 1 (nt c.a) hb1 <| Kq (r4In_spec c.a 0 1000000000 _) <| On 4 [1, 54] ?_
  by_cases hg36 : (0 : Int) ≤ c.a ∧ c.a ≤ 1000000000
  ·
   refine Dt 54 hg36 <| On 5 [1, 54, 55] <| Lr 2 (nt c.b) hb1 <| Kq (r4In_spec c.b 1 1000000000 _) <| On 9 [1, 59] ?_
   by_cases hg40 : (1 : Int) ≤ c.b ∧ c.b ≤ 1000000000
   ·
    refine Dt 59 hg40 <| On 10 [1, 59, 60] <| Lr 3 (nt c.c) hb1 <| Kq (r4In_spec c.c 0 1000000000 _) <| On 14 [1, 64] ?_
    by_cases hg44 : (0 : Int) ≤ c.c ∧ c.c ≤ 1000000000
    ·
     exact Dt 64 hg44 <| On 15 [64, 65] <| Lr 4 (nt c.d) hb1 <| Oen [2] <| V_ret <| X_ret_block <| X_ret_then <| Xr (.bool (decide (c.d = 0))) ⟨by congr 2; first | (apply Eq.symm; (try simp only [decide_eq_true_eq]); (try simp only [decide_eq_false_iff_not]); unfold okCrv fallsC; simp_all <;> omega) | (rw [decide_eq_decide]; unfold okCrv fallsC; simp_all <;> omega), hK0⟩
    exact Df 64 hg44 <| Oen [2] <| V_ret <| X_ret_block <| X_ret_then <| Xr (.bool false) ⟨by congr 2; first | (apply Eq.symm; (try simp only [decide_eq_true_eq]); (try simp only [decide_eq_false_iff_not]); unfold okCrv fallsC; simp_all <;> omega) | (rw [decide_eq_decide]; unfold okCrv fallsC; simp_all <;> omega), hK0⟩
   exact Df 59 hg40 <| Oen [2] <| V_ret <| X_ret_block <| X_ret_then <| Xr (.bool false) ⟨by congr 2; first | (apply Eq.symm; (try simp only [decide_eq_true_eq]); (try simp only [decide_eq_false_iff_not]); unfold okCrv fallsC; simp_all <;> omega) | (rw [decide_eq_decide]; unfold okCrv fallsC; simp_all <;> omega), hK0⟩
  exact Df 54 hg36 <| Oen [2] <| V_ret <| X_ret_block <| X_ret_then <| Xr (.bool false) ⟨by congr 2; first | (apply Eq.symm; (try simp only [decide_eq_true_eq]); (try simp only [decide_eq_false_iff_not]); unfold okCrv fallsC; simp_all <;> omega) | (rw [decide_eq_decide]; unfold okCrv fallsC; simp_all <;> omega), hK0⟩
 exact V_skip <| X_block <| X_then <| Vn [2] <| Rr (.bool false) ⟨by congr 2; first | (apply Eq.symm; (try simp only [decide_eq_true_eq]); (try simp only [decide_eq_false_iff_not]); unfold okCrv fallsC; simp_all <;> omega) | (rw [decide_eq_decide]; unfold okCrv fallsC; simp_all <;> omega), hK0⟩
theorem r10Is_spec (x : Trk) (w : World) : Calls Tryz.prog 47 #[.agg x.cells.toArray] w fun e w' => e = .returned (.bool (decide (okTrk x))) ∧ Keep none_ w w' := by
 have hK0 := Keep.refl none_ w
 refine eV ?_
 refine Vr <| OI_box 80 (.tmp 0) (.agg (Trk.cells x).toArray) (Trk.cells x) (some 1) (by kernel_rfl) (by kernel_rfl) rfl ?_
 intro b1 w1 e1 hb1 k1 z1
 have hsz2 := Keep.size k1
 replace hK0 := hK0.tn k1
 have hb1lt := hb1.lt
 refine On 2 [1] <| Oer <| On 1 [1, 3] <| Lr 0 (nt x.most) hb1 <| Kq (r10In_spec x.most 1 12 _) <| On 4 [1, 6] ?_
 by_cases hg6 : (1 : Int) ≤ x.most ∧ x.most ≤ 12
 ·
  refine Dt 6 hg6 <| On 5 [1, 6, 7] <| Lr 1 (nt x.deposit) hb1 <| Kq (r10In_spec x.deposit 0 1073741824 _) <| On 9 [1, 11] ?_
  by_cases hg10 : (0 : Int) ≤ x.deposit ∧ x.deposit ≤ 1073741824
  ·
   refine Dt 11 hg10 <| On 10 [1, 11, 12] <| Lr 16 (nt x.cap) hb1 <| Kq (r10In_spec x.cap 0 1073741824 _) <| On 14 [1, 16] ?_
   by_cases hg14 : (0 : Int) ≤ x.cap ∧ x.cap ≤ 1073741824
   ·
    refine Dt 16 hg14 <| On 15 [1, 16, 17] <| Lr 2 (nt x.prepare) hb1 <| Kq (r10In_spec x.prepare 0 1000 _) <| On 19 [1, 21] ?_
    by_cases hg18 : (0 : Int) ≤ x.prepare ∧ x.prepare ≤ 1000
    ·
     refine Dt 21 hg18 <| On 20 [1, 21, 22] <| Lr 4 (nt x.confirm) hb1 <| Kq (r10In_spec x.confirm 0 1000 _) <| On 24 [1, 26] ?_
     by_cases hg22 : (0 : Int) ≤ x.confirm ∧ x.confirm ≤ 1000
     ·
      refine Dt 26 hg22 <| On 25 [1, 26, 27] <| Lr 5 (nt x.enact) hb1 <| Kq (r10In_spec x.enact 0 1000 _) <| On 29 [1, 31] ?_
      by_cases hg26 : (0 : Int) ≤ x.enact ∧ x.enact ≤ 1000
      ·
       refine Dt 31 hg26 <| On 30 [1, 31, 32] <| Lr 3 (nt x.decision) hb1 <| Kq (r10In_spec x.decision 1 1000 _) <| On 34 [1, 36] ?_
       by_cases hg30 : (1 : Int) ≤ x.decision ∧ x.decision ≤ 1000
       ·
        refine Dt 36 hg30 <| On 35 [1, 36, 37] <| La 6 (Crv.cells x.app) 5 hb1 rfl rfl <| Kk (r4Is_spec x.app _) fun w31 hk32 _ => ?_
        replace hb1 := hb1.k0 hk32
        replace hK0 := hK0.tn hk32
        refine On 39 [1, 41] ?_
        by_cases hg34 : okCrv x.app
        ·
         refine Dt 41 hg34 <| On 40 [1, 41, 42] <| La 11 (Crv.cells x.sup) 5 hb1 rfl rfl <| Kk (r4Is_spec x.sup _) fun w35 hk36 _ => ?_
         replace hb1 := hb1.k0 hk36
         replace hK0 := hK0.tn hk36
         refine On 44 [1, 46] ?_
         by_cases hg38 : okCrv x.sup
         ·
          exact Dt 46 hg38 <| On 45 [46, 47] <| Lr 17 (nt x.rank) hb1 <| Kq (r10In_spec x.rank 0 2 _) <| Oen [2] <| Rr (.bool (decide ((0 : Int) ≤ x.rank ∧ x.rank ≤ 2))) ⟨by congr 2; first | (apply Eq.symm; (try simp only [decide_eq_true_eq]); (try simp only [decide_eq_false_iff_not]); unfold okTrk; simp_all <;> omega) | (rw [decide_eq_decide]; unfold okTrk; simp_all <;> omega), hK0⟩
         exact Df 46 hg38 <| Oen [2] <| Rr (.bool false) ⟨by congr 2; first | (apply Eq.symm; (try simp only [decide_eq_true_eq]); (try simp only [decide_eq_false_iff_not]); unfold okTrk; simp_all <;> omega) | (rw [decide_eq_decide]; unfold okTrk; simp_all <;> omega), hK0⟩
        exact Df 41 hg34 <| Oen [2] <| Rr (.bool false) ⟨by congr 2; first | (apply Eq.symm; (try simp only [decide_eq_true_eq]); (try simp only [decide_eq_false_iff_not]); unfold okTrk; simp_all <;> omega) | (rw [decide_eq_decide]; unfold okTrk; simp_all <;> omega), hK0⟩
       exact Df 36 hg30 <| Oen [2] <| Rr (.bool false) ⟨by congr 2; first | (apply Eq.symm; (try simp only [decide_eq_true_eq]); (try simp only [decide_eq_false_iff_not]); unfold okTrk; simp_all <;> omega) | (rw [decide_eq_decide]; unfold okTrk; simp_all <;> omega), hK0⟩
      exact Df 31 hg26 <| Oen [2] <| Rr (.bool false) ⟨by congr 2; first | (apply Eq.symm; (try simp only [decide_eq_true_eq]); (try simp only [decide_eq_false_iff_not]); unfold okTrk; simp_all <;> omega) | (rw [decide_eq_decide]; unfold okTrk; simp_all <;> omega), hK0⟩
     exact Df 26 hg22 <| Oen [2] <| Rr (.bool false) ⟨by congr 2; first | (apply Eq.symm; (try simp only [decide_eq_true_eq]); (try simp only [decide_eq_false_iff_not]); unfold okTrk; simp_all <;> omega) | (rw [decide_eq_decide]; unfold okTrk; simp_all <;> omega), hK0⟩
    exact Df 21 hg18 <| Oen [2] <| Rr (.bool false) ⟨by congr 2; first | (apply Eq.symm; (try simp only [decide_eq_true_eq]); (try simp only [decide_eq_false_iff_not]); unfold okTrk; simp_all <;> omega) | (rw [decide_eq_decide]; unfold okTrk; simp_all <;> omega), hK0⟩
   exact Df 16 hg14 <| Oen [2] <| Rr (.bool false) ⟨by congr 2; first | (apply Eq.symm; (try simp only [decide_eq_true_eq]); (try simp only [decide_eq_false_iff_not]); unfold okTrk; simp_all <;> omega) | (rw [decide_eq_decide]; unfold okTrk; simp_all <;> omega), hK0⟩
  exact Df 11 hg10 <| Oen [2] <| Rr (.bool false) ⟨by congr 2; first | (apply Eq.symm; (try simp only [decide_eq_true_eq]); (try simp only [decide_eq_false_iff_not]); unfold okTrk; simp_all <;> omega) | (rw [decide_eq_decide]; unfold okTrk; simp_all <;> omega), hK0⟩
 exact Df 6 hg6 <| Oen [2] <| Rr (.bool false) ⟨by congr 2; first | (apply Eq.symm; (try simp only [decide_eq_true_eq]); (try simp only [decide_eq_false_iff_not]); unfold okTrk; simp_all <;> omega) | (rw [decide_eq_decide]; unfold okTrk; simp_all <;> omega), hK0⟩
def okTs (ts : List Trk) : Prop := 1 ≤ ts.length ∧ ts.length ≤ 4 ∧ ∀ t ∈ ts, okTrk t
instance (ts : List Trk) : Decidable (okTs ts) := by unfold okTs; infer_instance
theorem rbad_spec (x : Trk) (w : World) : Calls Tryz.prog 41 #[.agg x.cells.toArray] w fun e w' => e = .returned (.bool (!decide (okTrk x))) ∧ Keep none_ w w' := by
 have hK0 := Keep.refl none_ w
 refine eV ?_
 refine Vr <| OI_box 80 (.tmp 0) (.agg (Trk.cells x).toArray) (Trk.cells x) (some 1) (by kernel_rfl) (by kernel_rfl) rfl ?_
 intro b1 w1 e1 hb1 k1 z1
 have hsz2 := Keep.size k1
 replace hK0 := hK0.tn k1
 have hb1lt := hb1.lt
 refine On 2 [1] <| Oer <| La 0 (Trk.cells x) 18 hb1 (take_all (Trk.len _)) (Trk.len _) <| Kk (trkIs_spec x _) fun w3 hk4 _ => ?_
 replace hK0 := hK0.tn hk4
 exact Oen [2] <| Rr (.bool (!(decide (okTrk x)))) ⟨rfl, hK0⟩
theorem ixf_spec (A : Option Addr) (cap : Nat) (ts : List Trk) (w : World) (hA : SlT w 18 Trk.cells A cap ts) (hok : ∀ t ∈ ts, okTrk t) (hn4 : ts.length ≤ 4) : Calls Tryz.prog 72 #[.slice A ts.length cap, .func (.func 41) #[] #[]] w fun e w' => e = .returned (nt (-1)) ∧ Keep none_ w w' := by
 have hAlt := SlT.lt hA
 have hK0 := Keep.refl none_ w
 refine eV ?_
 refine Vr <| On 1 [0, 1] <| Oe <| V_seq <| Vn [0, 1, 7, 8] <| V_block <| Vp [(0, .slice A ts.length cap),(1, .func (.func 41) #[] #[]),(7, nt (ts.length : Int)),(8, nt 0)] <| V_loop (fun k wI e => ∃ i : Nat, (k + i = ts.length) ∧ Keep none_ w wI ∧ e = [(0, .slice A ts.length cap),(1, .func (.func 41) #[] #[]),(7, nt (ts.length : Int)),(8, nt (i : Int))]) ts.length ⟨0, rfl, Keep.refl _ _, rfl⟩ ?_
 rintro k2 w1 _ ⟨i, hki, hk3, rfl⟩
 have hsz4 := Keep.size hk3
 replace hA := hA.keep0 hk3
 replace hK0 := hK0.tn hk3
 have hzhk3 := Keep.size hk3
 refine Vn [0, 1, 7, 8, 9] <| V_seq <| Vi ((i : Int) < (ts.length : Int)) (fun hc5 => ?_) (fun hc5 => ?_)
 ·
  refine Vsk <| V_seq <| V_block <| Vr <| On 2 [0, 1, 5, 7, 8] <| Oer <| On 3 [0, 1, 5, 7, 8, 11, 12, 13] ?_
  obtain ⟨b6, o6, L6, T6, rfl, hat6⟩ := SlT.opn hA
  have hb6lt := hat6.blk.lt
  have hob7 := hAlt b6 ⟨_, rfl, rfl⟩
  refine Oi (b := b6) (o := o6) (len := ts.length) (cap := cap) (j := i) (some 14) 67 (.tmp 12) (.tmp 13) 80 18 144 .i64 ?_
  obtain ⟨x8, hx9⟩ := exAt (xs := ts) (i := i)
  have hokx : okTrk x8 := hok x8 (List.mem_of_getElem? hx9)
  refine La (o6 + i * 18) (Trk.cells x8) 18 hat6.blk (At.elem' hat6 (es_at hx9)) (At.len hat6 (es_at hx9)) <| Kk (rbad_spec x8 _) fun w10 hk11 _ => ?_
  replace hk3 := hk3.tn hk11
  refine Oe <| Vp [(0, sl_ b6 o6 ts.length cap),(1, .func (.func 41) #[] #[]),(5, nt (i : Int)),(7, nt (ts.length : Int)),(8, nt (i : Int)),(16, .bool (!(decide (okTrk x8))))] <| Vq (u := .bool (!(decide (okTrk x8)))) (v := .bool false) 16 (by rw [decide_eq_true hokx]; rfl) <| Vf <| V_skip <| X_block <| X_then <| V_region ?_
  have hw14 : i64.wrap ((i : Int) + 1) = ((i + 1 : Nat) : Int) := wrp
  refine On 1 [0, 1, 7, 18] <| Oq (u := nt (i64.wrap ((i : Int) + 1))) (v := nt ((i + 1 : Nat) : Int)) 18 (by rw [hw14]) <| Os 2 [(0, sl_ b6 o6 ts.length cap),(1, .func (.func 41) #[] #[]),(7, nt (ts.length : Int)),(8, nt ((i + 1 : Nat) : Int))] <| OI_end rfl ?_
  exact V_again (k2 - 1) (by omega) [(0, sl_ b6 o6 ts.length cap),(1, .func (.func 41) #[] #[]),(7, nt (ts.length : Int)),(8, nt ((i + 1 : Nat) : Int))] rfl ⟨i + 1, by omega, hk3, rfl⟩
 exact V_exit <| X_exit_then <| X_exit_then <| X_exit_here <| X_then <| Vn [4] <| Rr (nt (-1)) ⟨rfl, hK0⟩
theorem ctf_spec (A : Option Addr) (cap : Nat) (ts : List Trk) (w : World) (hA : SlT w 18 Trk.cells A cap ts) (hok : ∀ t ∈ ts, okTrk t) (hn4 : ts.length ≤ 4) : Calls Tryz.prog 43 #[.slice A ts.length cap, .func (.func 41) #[] #[]] w (rk_ w (.bool false)) := by
 have hAlt := SlT.lt hA
 have hK0 := Keep.refl none_ w
 refine eV ?_
 refine Vr <| On 1 [0, 1] <| Oer <| On 2 [5, 6] <| Kk (ixf_spec A cap ts _ hA hok hn4) fun w1 hk2 _ => ?_
 replace hK0 := hK0.tn hk2
 exact Oen [4] <| Rr (.bool false) ⟨rfl, hK0⟩
theorem tclone_nil (w : World) : Calls Tryz.prog 44 #[.slice none 0 0] w fun e w' => e = .returned (.slice none 0 0) ∧ w' = w := by
 refine eV ?_
 refine Vr <| On 1 [0] <| Oe <| V_seq <| Vn [0, 4] <| Vo <| Vs [(2, .slice none 0 0)] <| Rt ?_
 exact X_return _ rfl ⟨rfl, rfl⟩
theorem tclone_at (b o cap : Nat) (L : List Value) (T : TypeId) (xs : List Trk) (w : World) (h : At w b o L T 18 cap (xs.map Trk.cells)) (hn : xs.length ≤ 1000000) : Calls Tryz.prog 44 #[sl_ b o xs.length cap] w fun e w' => ∃ A' cap', e = .returned (.slice A' xs.length cap') ∧ SlT w' 18 Trk.cells A' cap' xs ∧ Keep none_ w w' ∧ (∀ k, inA A' k → w.heap.size ≤ k) := by
 have hblt := h.blk.lt
 have hK0 := Keep.refl none_ w
 refine eV ?_
 refine Vr <| On 1 [0] <| Oe <| V_seq <| Vn [0, 4] <| Vf <| Vsk <| Vr <| OI_slit (E := 80) (zv := .agg #[nt 0, nt 0, nt 0, nt 0, nt 0, nt 0, nt 0, nt 0, nt 0, nt 0, nt 0, nt 0, nt 0, nt 0, nt 0, nt 0, nt 0, nt 0]) (sz := 18) (by_ := 144) 67 0 #[] [] [] (some 5) (by kernel_rfl) (by kernel_rfl) (by kernel_rfl) (by omega) rfl (by omega) (by intro v hv; cases hv) (by kernel_rfl) rfl ?_
 intro b1 w1 e1 hb1 k1 z1
 have hsz2 := Keep.size k1
 replace h := h.k0 k1
 replace hK0 := hK0.tn k1
 have hb1lt := hb1.lt
 refine Os 2 [(5, sl_ b1 0 0 0),(6, sl_ b o xs.length cap)] <| OI_append (t := 67) (at2 := 67) (E := 80) (E2 := 80) (sz := 18) (by_ := 144) (zv := .agg #[nt 0, nt 0, nt 0, nt 0, nt 0, nt 0, nt 0, nt 0, nt 0, nt 0, nt 0, nt 0, nt 0, nt 0, nt 0, nt 0, nt 0, nt 0]) (m := 0) (k := xs.length) (.tmp 5) (.tmp 6) (sl_ b1 0 0 0) (sl_ b o xs.length cap) (some 7) (by kernel_rfl) (by kernel_rfl) (by kernel_rfl) (by kernel_rfl) (by kernel_rfl) (by kernel_rfl) (by kernel_rfl) (SlT.slr (slt_blk (f := Trk.cells) (xs := []) hb1 Trk.len rfl)) (SlT.slr (At.slt h)) (one_flat Trk.one) (by omega) (by omega) (by omega) (by omega) ?_
 intro v w9 hap
 obtain ⟨A9, cap9, rfl, h9, hin⟩ := SlT.of (xs := xs) hap.holds (by omega) (by simp) (fun x _ => Trk.len x)
 have hk9 : Keep (only b1) w1 w9 := hap.keep
 have hown : ∀ k, inA A9 k → w.heap.size ≤ k := fun k hk => by rcases hap.own k (hin k hk) with h | h; (have h : k = b1 := h; omega); omega
 have hsz3 := Keep.size hk9
 replace hK0 := Keep.fr hK0 hk9
 refine Op_ [(7, .slice A9 (0 + xs.length) cap9)] <| Oq (u := .slice A9 (0 + xs.length) cap9) (v := .slice A9 xs.length cap9) 7 (by rw [Nat.zero_add]) <| Ose [(2, .slice A9 xs.length cap9)] <| V_ret ?_
 exact X_return _ rfl ⟨A9, cap9, rfl, h9, hK0, hown⟩
theorem tclone_spec (A : Option Addr) (cap : Nat) (xs : List Trk) (w : World) (hA : SlT w 18 Trk.cells A cap xs) (hn : xs.length ≤ 1000000) : Calls Tryz.prog 44 #[.slice A xs.length cap] w fun e w' => ∃ A' cap', e = .returned (.slice A' xs.length cap') ∧ SlT w' 18 Trk.cells A' cap' xs ∧ Keep none_ w w' ∧ (∀ k, inA A' k → w.heap.size ≤ k) := by
  rcases Nat.eq_zero_or_pos xs.length with h0 | h0
  · obtain rfl := List.length_eq_zero_iff.1 h0
    rcases hA with ⟨rfl, rfl, _⟩ | ⟨b, o, L, T, rfl, h1, h2, h3, h4, h5⟩
    · exact (tclone_nil w).mono (by rintro e w' ⟨rfl, rfl⟩; exact ⟨none, 0, rfl, SlT.nil _ _ _, Keep.refl _ _, fun k hk => (inA_none hk).elim⟩)
    · exact tclone_at b o cap L T [] w ⟨h1, h2, h3, h4, h5⟩ hn
  · obtain ⟨b, o, L, T, rfl, h⟩ := hA.open_ h0
    exact tclone_at b o cap L T xs w h hn
theorem rnw_spec (A : Option Addr) (cap : Nat) (ts : List Trk) (w : World) (hA : SlT w 18 Trk.cells A cap ts) (hok : okTs ts) : Calls Tryz.prog 19 #[.slice A ts.length cap] w fun e w' => ∃ r g H, e = .returned (.tuple #[pt r, nt 0]) ∧ Rfr H w' r g ts [] ∧ Keep none_ w w' ∧ (∀ q, H q → w.heap.size ≤ q) := by
 have hAlt := SlT.lt hA
 have hok1 := hok.1
 have hok2 := hok.2.1
 have hK0 := Keep.refl none_ w
 refine eV ?_
 refine Vr <| On 2 [0] <| Oer <| On 1 [0, 4] <| Oe <| V_seq <| Vr <| On 4 [0, 4, 8] <| Oq (u := .bool (decide ((ts.length : Int) = 0))) (v := .bool false) 8 (by rw [decide_eq_false (by omega : ¬ ((ts.length : Int) = 0))]) <| On 9 [0, 4, 13] <| Oq (u := .bool (decide ((ts.length : Int) > 4))) (v := .bool false) 13 (by rw [decide_eq_false (by omega : ¬ ((ts.length : Int) > 4))]) <| On 11 [0, 13, 14, 15] <| Kk (ctf_spec A cap ts _ hA hok.2.2 (by omega)) fun w3 hk4 _ => ?_
 replace hA := hA.keep0 hk4
 replace hK0 := hK0.tn hk4
 refine Oen [0, 17] <| Vf <| Vsk <| Vr <| On 1 [18] <| Kg (tclone_spec A cap ts _ hA (by omega)) ?_
 rintro _ w6 ⟨A8, cap8, rfl, hA8, hk7, ow8⟩
 refine ⟨_, rfl, ?_⟩
 have hsz9 := Keep.size hk7
 replace hK0 := hK0.tn hk7
 have lt8 := SlT.lt hA8
 refine Kg (GQ.new_grd _) ?_
 rintro _ w12 ⟨g14, F15, rfl, ho16, hk13, hge17⟩
 refine ⟨_, rfl, ?_⟩
 have hsz18 := Keep.size hk13
 replace hK0 := hK0.tn hk13
 have own19 : ∀ q, F15 q → w6.heap.size ≤ q := fun q hq => by have h1 := hge17 q hq; omega
 have lt20 := GQ.Grd.lt ho16
 have dis21 : ∀ q, F15 q → ¬ inA A q := fun q h1 h2 => by have h3 := hge17 q h1; have h4 := hAlt q h2; omega
 have dis22 : ∀ q, F15 q → ¬ inA A8 q := fun q h1 h2 => by have h3 := hge17 q h1; have h4 := lt8 q h2; omega
 have hg14lt : g14 < w12.heap.size := GQ.Grd.lt ho16 _ (GQ.Grd.at_ ho16)
 have hg14ge := hge17 _ (GQ.Grd.at_ ho16)
 refine On 4 [21] <| Bx 90 [.slice A8 ts.length cap8, pt g14] ?_
 intro b23 w23 e23 hb23 k23 z23
 have hsz24 := Keep.size k23
 replace hA8 := hA8.keep0 (hk13.tr k23)
 replace hK0 := hK0.tn k23
 replace ho16 := GQ.Grd.keep ho16 k23 nk
 have hb23lt := hb23.lt
 refine Ose [(2, pt b23),(3, nt 0)] <| V_ret ?_
 exact X_return _ rfl ⟨b23, g14, (fun q => F15 q ∨ inA A8 q ∨ q = b23), rfl, ⟨⟨by omega, hok.2.2, by simp, fun x hx => by cases hx⟩, fun q hq => by rcases hq with h | h | h; (have h1 := lt20 q h; omega); (have h1 := lt8 q h; omega); omega, F15, A8, cap8, ⟨hb23, hA8, ho16, (fun q h1 h2 => dis22 q h2 h1),(fun q h => by have h1 := ow8 q h; have h2 := lt8 q h; omega),(fun q h => by have h1 := lt20 q h; omega)⟩, .inr (.inr rfl), fun q h => .inl h, fun q h => .inr (.inl h)⟩, hK0, fun q hq => by rcases hq with h | h | h; (have h1 := own19 q h; omega); (have h1 := ow8 q h; omega); omega⟩
end Go.Al
namespace Go.Al
open Go Go.RowKit Go.Proofs
theorem rnew6_weak (A : Option Addr) (cap : Nat) (fs : List Int) (w : World) (hA0 : ArgT w 1 intc A cap fs) (hn : fs.length ≤ 100000) : Calls Tryz.prog 18 #[.slice A fs.length cap] w fun e w' => ∃ pv n, e = .returned (.tuple #[.pointer pv, nt n]) ∧ Keep none_ w w' := by
 have hA := hA0
 have hK0 := Keep.refl none_ w
 refine eV ?_
 refine Vr <| On 2 [0] <| Oe <| V_seq <| Vn [0, 9] <| Vi ((fs.length : Int) > 10) (fun hc1 => ?_) (fun hc1 => ?_)
 ·
  exact Vn [2, 3] <| Rt <| Xr (.tuple #[.pointer none, nt 1]) ⟨_, _, rfl, hK0⟩
 refine Vsk <| Vr <| OI_make (E := 114) (sz := 3) (by_ := 40) (m := 10) (kd := .i64) (zv := .agg #[nt 0, nt 0, .slice none 0 0]) 109 (.const (Value.int IntKind.i64 10)) (.const (Value.int IntKind.i64 10)) ((List.replicate 10 [nt 0, nt 0, .slice none 0 0]).flatten) (some 10) (by kernel_rfl) (by kernel_rfl) (by kernel_rfl) (by kernel_rfl) (by kernel_rfl) (by decide) (by decide) (by kernel_rfl) ?_
 intro b2 w2 e2 hb2 k2 z2
 have hsz3 := Keep.size k2
 replace hA := ArgT.keep0 hA k2
 replace hK0 := hK0.tn k2
 have hb2lt := hb2.lt
 refine On 2 [0, 11] <| Bx 111 [sl_ b2 0 10 10] ?_
 intro b4 w4 e4 hb4 k4 z4
 have hsz5 := Keep.size k4
 replace hb2 := hb2.k0 k4
 replace hA := ArgT.keep0 hA k4
 replace hK0 := hK0.tn k4
 have hb4lt := hb4.lt
 refine On 4 [0, 4] <| Oer <| On 1 [0, 4, 5] <| Oe <| V_seq <| Vn [0, 4, 5, 6] <| V_block <| Vp [(0, .slice A fs.length cap),(4, pt b4),(5, nt 0),(6, nt 0)] <| V_loop (fun k wI e => ∃ i : Nat, ∃ s5 : Int, ∃ Lx : List Value, (k + i = fs.length) ∧ (Blk wI b2 Lx 114) ∧ (Lx.length = 30) ∧ Keep (only b2) w4 wI ∧ e = [(0, .slice A fs.length cap),(4, pt b4),(5, nt s5),(6, nt (i : Int))]) fs.length ⟨0, 0, (List.replicate 10 [nt 0, nt 0, .slice none 0 0]).flatten, by omega, hb2, by decide, Keep.refl _ _, rfl⟩ ?_
 rintro k7 w6 _ ⟨i, s5, Lx, hki, hB, hLx, hk8, rfl⟩
 have hsz9 := Keep.size hk8
 replace hb4 := hb4.k1 hk8
 replace hA := ArgT.keep hA hk8 hA0 (fun k hk hs => by have hs : k = b2 := hs; omega)
 replace hK0 := Keep.fr hK0 hk8
 have hzhk8 := Keep.size hk8
 have hb2lt := hB.lt
 refine V_seq <| Vn [0, 4, 5, 6, 16] <| Vi ((i : Int) < (fs.length : Int)) (fun hc10 => ?_) (fun hc10 => ?_)
 ·
  refine Vsk <| V_seq <| V_block <| V_seq <| Vr <| On 2 [0, 4, 5, 6, 19, 20] ?_
  obtain ⟨b11, o11, L11, rfl, hat11⟩ := ArgT.open_ hA (by first | omega | (simp only [List.length_map]; omega) | (simp; done) | (simp; omega))
  have hb11lt0 := ArgT.lt hA0 (by first | omega | (simp only [List.length_map]; omega) | (simp; done) | (simp; omega))
  have hb11lt := hat11.blk.lt
  refine Oi (b := b11) (o := o11) (len := fs.length) (cap := cap) (j := i) (some 21) 49 (.tmp 19) (.tmp 20) 3 1 8 .i64 ?_
  obtain ⟨x12, hx13⟩ := exAt (xs := fs) (i := i)
  refine OI_cellR 3 (.tmp 21) (o11 + i * 1) (nt x12) (some 22) (by kernel_rfl) (by kernel_rfl) hat11.blk (m := 1) (by kernel_rfl) (AtR.cell0 hat11 (es_at hx13) rfl) <| On 6 [0, 4, 5, 6, 24] ?_
  by_cases hg14 : x12 < 0
  ·
   exact Dt 24 hg14 <| Oen [0, 4, 5, 6, 25, 26, 27, 28, 29, 30] <| Vo <| Vn [2, 3] <| Rt <| X_ret_block <| X_ret_then <| X_ret_then <| X_ret_block <| X_ret_then <| Xr (.tuple #[.pointer none, nt 1]) ⟨_, _, rfl, hK0⟩
  refine Df 24 hg14 <| On 8 [0, 4, 5, 6, 24, 25, 26] <| Oi (b := b11) (o := o11) (len := fs.length) (cap := cap) (j := i) (some 27) 49 (.tmp 25) (.tmp 26) 3 1 8 .i64 <| OI_cellR 3 (.tmp 27) (o11 + i * 1) (nt x12) (some 28) (by kernel_rfl) (by kernel_rfl) hat11.blk (m := 1) (by kernel_rfl) (AtR.cell0 hat11 (es_at hx13) rfl) <| Oen [0, 4, 5, 6, 25, 26, 27, 28, 29, 30] <| Vi (x12 > 1073741824) (fun hc15 => ?_) (fun hc15 => ?_)
  ·
   exact Vn [2, 3] <| Rt <| X_ret_block <| X_ret_then <| X_ret_then <| X_ret_block <| X_ret_then <| Xr (.tuple #[.pointer none, nt 1]) ⟨_, _, rfl, hK0⟩
  refine Vsk <| V_seq <| Vd1 (acts [11]) (only b2) [0, 1, 2, 3, 4, 5, 6, 7, 8, 9, 10, 11] fun w17 hk16 he18 K21 _ => ?_
  replace hB := hB.k0 hk16
  replace hb4 := hb4.k0 hk16
  replace hat11 := hat11.keep hk16 id
  replace hk8 := hk8.tn hk16
  have qhb4 := hb4
  have qhat11 := hat11
  refine Gn [3, 4, 5, 6, 7, 8, 9, 10, 11] [0, 4, 5, 6, 25, 26, 27, 28, 29, 33] <| Mc 0 (sl_ b2 0 10 10) qhb4 (by show ¬ (_ = _); omega) rfl <| Gs [7, 8, 9, 10, 11] [(0, sl_ b11 o11 fs.length cap),(4, pt b4),(5, nt s5),(6, nt (i : Int)),(25, sl_ b11 o11 fs.length cap),(26, nt (i : Int)),(27, .pointer (some ⟨b11, o11 + i * 1, none⟩)),(28, nt x12),(29, .bool (decide (x12 > 1073741824))),(34, sl_ b2 0 10 10),(35, nt (i : Int)),(36, sl_ b11 o11 fs.length cap),(37, nt (i : Int))] <| Gi (b := b11) (o := o11) (len := fs.length) (cap := cap) (j := i) 3 1 8 .i64 <| GI_cellR 3 (.tmp 38) (o11 + i * 1) (nt x12) (some 39) (by kernel_rfl) (by kernel_rfl) (by kernel_rfl) qhat11.blk (by show ¬ (_ = _); omega) (m := 1) (by kernel_rfl) (AtR.cell0 qhat11 (es_at hx13) rfl) <| Gi (b := b2) (o := 0) (len := 10) (cap := 10) (j := i) 114 3 40 .i64 <| Gn [11] [0, 4, 5, 6, 25, 26, 27, 28, 29, 39, 41] <| GI_final 11 (by kernel_rfl) (by kernel_rfl) <| OI_set (m := 1) (kd := false) 3 (.tmp 41) (.tmp 39) (0 + i * 3) (nt x12) [nt x12] none (by kernel_rfl) (by kernel_rfl) (by kernel_rfl) hB (by kernel_rfl) (by kernel_rfl) (by kernel_rfl) (by rw [hLx]; show 0 + i * 3 + 1 ≤ 30; omega) (by simp [Value.oneCell']) ?_
  intro w22 hb2_25 hk23 hz24
  replace hb2_25 : Blk w22 b2 (over Lx (0 + i * 3) [nt x12]) 114 := hb2_25
  have hsz26 := Keep.size hk23
  replace hat11 := hat11.keep hk23 (by show ¬ (_ = _); omega)
  replace hk8 := Keep.fr hk8 hk23
  refine Oe <| V_region <| On 3 [0, 4, 6, 25, 26, 27, 28, 29, 42, 43, 44] <| Oi (b := b11) (o := o11) (len := fs.length) (cap := cap) (j := i) (some 45) 49 (.tmp 43) (.tmp 44) 3 1 8 .i64 <| OI_cellR 3 (.tmp 45) (o11 + i * 1) (nt x12) (some 46) (by kernel_rfl) (by kernel_rfl) hat11.blk (m := 1) (by kernel_rfl) (AtR.cell0 hat11 (es_at hx13) rfl) <| On 7 [0, 4, 5, 6, 25, 26, 27, 28, 29] <| OI_end rfl <| X_block <| X_then <| V_region ?_
  have hw27 : i64.wrap ((i : Int) + 1) = ((i + 1 : Nat) : Int) := wrp
  refine On 2 [0, 4, 5, 18, 25, 26, 27, 28, 29] <| Oq (u := nt (i64.wrap ((i : Int) + 1))) (v := nt ((i + 1 : Nat) : Int)) 18 (by rw [hw27]) <| Os 3 [(0, sl_ b11 o11 fs.length cap),(4, pt b4),(5, nt (i64.wrap (s5 + x12))),(6, nt ((i + 1 : Nat) : Int)),(25, sl_ b11 o11 fs.length cap),(26, nt (i : Int)),(27, .pointer (some ⟨b11, o11 + i * 1, none⟩)),(28, nt x12),(29, .bool (decide (x12 > 1073741824)))] <| OI_end rfl ?_
  exact V_again (k7 - 1) (by omega) [(0, sl_ b11 o11 fs.length cap),(4, pt b4),(5, nt (i64.wrap (s5 + x12))),(6, nt ((i + 1 : Nat) : Int))] rfl ⟨i + 1, i64.wrap (s5 + x12),(over Lx (0 + i * 3) [nt x12]), by omega, hb2_25, by rw [over_length (by rw [hLx]; show 0 + i * 3 + 1 ≤ 30; omega)]; exact hLx, hk8, rfl⟩
 refine V_exit <| X_exit_then <| X_exit_then <| X_exit_here <| X_then <| V_seq <| Vn [4, 49] <| Vi (s5 > 1073741824) (fun hc28 => ?_) (fun hc28 => ?_)
 ·
  exact Vn [2, 3] <| Rt <| Xr (.tuple #[.pointer none, nt 1]) ⟨_, _, rfl, hK0⟩
 exact Vsk <| Vn [2, 3] <| Rr (.tuple #[pt b4, nt 0]) ⟨_, _, rfl, hK0⟩
theorem rnew11_weak (w : World) : Calls Tryz.prog 23 #[] w fun e w' => ∃ pv, e = .returned (.pointer pv) ∧ Keep none_ w w' := by
 have hK0 := Keep.refl none_ w
 refine eV ?_
 refine Vs [] <| V_seq <| V_draws (acts [0, 1, 3]) none_ [[0, 1, 2, 3, 4], [1, 0, 2, 3, 4]] (by kernel_rfl) (by repeat first | exact sure_body (by rintro _ _ ⟨_, h, _⟩; exact ⟨_, h⟩) | refine sure_then ?_ | refine sure_block ?_ | refine sure_join ?_) (by kernel_rfl) ?_
 intro w2 hk1 he3 L hL4
 have hsz5 := Keep.size hk1
 replace hK0 := hK0.tn hk1
 have K6 : Keep none_ w2 w2 := Keep.refl _ _
 simp only [List.mem_cons, List.not_mem_nil, or_false] at hL4
 rcases hL4 with rfl | rfl
 ·
  refine GI_make (E := 171) (sz := 7) (by_ := 56) (m := 12) (kd := .i64) (zv := .agg #[.bool false, nt 0, nt 0, nt 0, nt 0, nt 0, nt 0]) 131 (.const (Value.int IntKind.i64 12)) (.const (Value.int IntKind.i64 12)) ((List.replicate 12 [.bool false, nt 0, nt 0, nt 0, nt 0, nt 0, nt 0]).flatten) (some 1) (by kernel_rfl) (by kernel_rfl) K6 (by kernel_rfl) (by kernel_rfl) (by kernel_rfl) (by kernel_rfl) (by decide) (by decide) (by kernel_rfl) ?_
  intro b7 w7 e7 hb7 k7 z7 K8
  have hsz9 := Keep.size k7
  replace hK0 := hK0.tn k7
  have hb7lt := hb7.lt
  refine GI_make (E := 235) (sz := 9) (by_ := 88) (m := 40) (kd := .i64) (zv := .agg #[.slice none 0 0, .bool false, nt 0, nt 0, nt 0, nt 0, nt 0, nt 0, nt 0]) 132 (.const (Value.int IntKind.i64 40)) (.const (Value.int IntKind.i64 40)) ((List.replicate 40 [.slice none 0 0, .bool false, nt 0, nt 0, nt 0, nt 0, nt 0, nt 0, nt 0]).flatten) (some 2) (by kernel_rfl) (by kernel_rfl) K8 (by kernel_rfl) (by kernel_rfl) (by kernel_rfl) (by kernel_rfl) (by decide) (by decide) (by kernel_rfl) ?_
  intro b10 w10 e10 hb10 k10 z10 K11
  have hsz12 := Keep.size k10
  replace hK0 := hK0.tn k10
  have hb10lt := hb10.lt
  refine Gn [3, 4] [3] <| GI_box 134 (.tmp 3) (.agg #[sl_ b7 0 12 12, sl_ b10 0 40 40]) [sl_ b7 0 12 12, sl_ b10 0 40 40] (some 4) (by kernel_rfl) (by kernel_rfl) K11 (by kernel_rfl) (by kernel_rfl) ?_
  intro b13 w13 e13 hb13 k13 z13 K14
  have hsz15 := Keep.size k13
  replace hK0 := hK0.tn k13
  have hb13lt := hb13.lt
  refine Gs [] [(0, pt b13)] <| GI_end <| X_then <| V_ret ?_
  exact X_return _ rfl ⟨_, rfl, hK0⟩
 ·
  refine GI_make (E := 235) (sz := 9) (by_ := 88) (m := 40) (kd := .i64) (zv := .agg #[.slice none 0 0, .bool false, nt 0, nt 0, nt 0, nt 0, nt 0, nt 0, nt 0]) 132 (.const (Value.int IntKind.i64 40)) (.const (Value.int IntKind.i64 40)) ((List.replicate 40 [.slice none 0 0, .bool false, nt 0, nt 0, nt 0, nt 0, nt 0, nt 0, nt 0]).flatten) (some 2) (by kernel_rfl) (by kernel_rfl) K6 (by kernel_rfl) (by kernel_rfl) (by kernel_rfl) (by kernel_rfl) (by decide) (by decide) (by kernel_rfl) ?_
  intro b16 w16 e16 hb16 k16 z16 K17
  have hsz18 := Keep.size k16
  replace hK0 := hK0.tn k16
  have hb16lt := hb16.lt
  refine GI_make (E := 171) (sz := 7) (by_ := 56) (m := 12) (kd := .i64) (zv := .agg #[.bool false, nt 0, nt 0, nt 0, nt 0, nt 0, nt 0]) 131 (.const (Value.int IntKind.i64 12)) (.const (Value.int IntKind.i64 12)) ((List.replicate 12 [.bool false, nt 0, nt 0, nt 0, nt 0, nt 0, nt 0]).flatten) (some 1) (by kernel_rfl) (by kernel_rfl) K17 (by kernel_rfl) (by kernel_rfl) (by kernel_rfl) (by kernel_rfl) (by decide) (by decide) (by kernel_rfl) ?_
  intro b19 w19 e19 hb19 k19 z19 K20
  have hsz21 := Keep.size k19
  replace hK0 := hK0.tn k19
  have hb19lt := hb19.lt
  refine Gn [3, 4] [3] <| GI_box 134 (.tmp 3) (.agg #[sl_ b19 0 12 12, sl_ b16 0 40 40]) [sl_ b19 0 12 12, sl_ b16 0 40 40] (some 4) (by kernel_rfl) (by kernel_rfl) K20 (by kernel_rfl) (by kernel_rfl) ?_
  intro b22 w22 e22 hb22 k22 z22 K23
  have hsz24 := Keep.size k22
  replace hK0 := hK0.tn k22
  have hb22lt := hb22.lt
  refine Gs [] [(0, pt b22)] <| GI_end <| X_then <| V_ret ?_
  exact X_return _ rfl ⟨_, rfl, hK0⟩
theorem rnew12_weak (A : Option Addr) (cap : Nat) (ts : List Trk) (w : World) (hA : SlT w 18 Trk.cells A cap ts) (hok : okTs ts) : Calls Tryz.prog 21 #[.slice A ts.length cap] w fun e w' => ∃ pv, e = .returned (.tuple #[.pointer pv, nt 0]) ∧ Keep none_ w w' := by
 have hAlt := SlT.lt hA
 have hok1 := hok.1
 have hok2 := hok.2.1
 have hK0 := Keep.refl none_ w
 refine eV ?_
 refine Vr <| On 2 [0] <| Oe <| V_seq <| Vr <| On 4 [0, 8] <| Oq (u := .bool (decide ((ts.length : Int) < 1))) (v := .bool false) 8 (by rw [decide_eq_false (by omega : ¬ ((ts.length : Int) < 1))]) <| Oen [0, 12] <| Vp [(0, .slice A ts.length cap),(12, .bool (decide ((ts.length : Int) > 4)))] <| Vq (u := .bool (decide ((ts.length : Int) > 4))) (v := .bool false) 12 (by rw [decide_eq_false (by omega : ¬ ((ts.length : Int) > 4))]) <| Vf <| Vsk <| V_seq <| Vn [0, 4] <| V_block <| Vp [(0, .slice A ts.length cap),(4, nt 0)] <| V_loop (fun k wI e => ∃ i : Nat, (k + i = ts.length) ∧ Keep none_ w wI ∧ e = [(0, .slice A ts.length cap),(4, nt (i : Int))]) ts.length ⟨0, rfl, Keep.refl _ _, rfl⟩ ?_
 rintro k4 w3 _ ⟨i, hki, hk5, rfl⟩
 have hsz6 := Keep.size hk5
 replace hA := hA.keep0 hk5
 replace hK0 := hK0.tn hk5
 have hzhk5 := Keep.size hk5
 refine V_seq <| Vn [0, 4, 16] <| Vi ((i : Int) < (ts.length : Int)) (fun hc7 => ?_) (fun hc7 => ?_)
 ·
  refine Vsk <| V_seq <| V_block <| Vr <| On 2 [0, 4, 19, 20] ?_
  obtain ⟨b8, o8, L8, T8, rfl, hat8⟩ := SlT.opn hA
  have hb8lt := hat8.blk.lt
  have hob9 := hAlt b8 ⟨_, rfl, rfl⟩
  refine Oi (b := b8) (o := o8) (len := ts.length) (cap := cap) (j := i) (some 21) 67 (.tmp 19) (.tmp 20) 80 18 144 .i64 ?_
  obtain ⟨x10, hx11⟩ := exAt (xs := ts) (i := i)
  have hokx : okTrk x10 := hok.2.2 x10 (List.mem_of_getElem? hx11)
  refine La (o8 + i * 18) (Trk.cells x10) 18 hat8.blk (At.elem' hat8 (es_at hx11)) (At.len hat8 (es_at hx11)) <| Kk (r10Is_spec x10 _) fun w12 hk13 _ => ?_
  replace hk5 := hk5.tn hk13
  refine Oen [0, 4, 24] <| Vp [(0, sl_ b8 o8 ts.length cap),(4, nt (i : Int)),(24, .bool (!(decide (okTrk x10))))] <| Vq (u := .bool (!(decide (okTrk x10)))) (v := .bool false) 24 (by rw [decide_eq_true hokx]; rfl) <| Vf <| V_skip <| X_block <| X_then <| V_region ?_
  have hw16 : i64.wrap ((i : Int) + 1) = ((i + 1 : Nat) : Int) := wrp
  refine On 2 [0, 18] <| Oq (u := nt (i64.wrap ((i : Int) + 1))) (v := nt ((i + 1 : Nat) : Int)) 18 (by rw [hw16]) <| Os 3 [(0, sl_ b8 o8 ts.length cap),(4, nt ((i + 1 : Nat) : Int))] <| OI_end rfl ?_
  exact V_again (k4 - 1) (by omega) [(0, sl_ b8 o8 ts.length cap),(4, nt ((i + 1 : Nat) : Int))] rfl ⟨i + 1, by omega, hk5, rfl⟩
 refine V_exit <| X_exit_then <| X_exit_then <| X_exit_here <| X_then <| Vr <| OI_slit (E := 80) (zv := .agg #[nt 0, nt 0, nt 0, nt 0, nt 0, nt 0, nt 0, nt 0, nt 0, nt 0, nt 0, nt 0, nt 0, nt 0, nt 0, nt 0, nt 0, nt 0]) (sz := 18) (by_ := 144) 67 0 #[] [] [] (some 25) (by kernel_rfl) (by kernel_rfl) (by kernel_rfl) (by omega) rfl (by omega) (by intro v hv; cases hv) (by kernel_rfl) rfl ?_
 intro b17 w17 e17 hb17 k17 z17
 have hsz18 := Keep.size k17
 replace hA := hA.keep0 k17
 replace hK0 := hK0.tn k17
 have hb17lt := hb17.lt
 refine On 2 [25, 26] ?_
 have hl19 : ts.length = ts.length := rfl
 have hy19 := SlT.slr hA
 refine OI_append (t := 67) (at2 := 67) (E := 80) (E2 := 80) (sz := 18) (by_ := 144) (zv := .agg #[nt 0, nt 0, nt 0, nt 0, nt 0, nt 0, nt 0, nt 0, nt 0, nt 0, nt 0, nt 0, nt 0, nt 0, nt 0, nt 0, nt 0, nt 0]) (m := ([] : List Trk).length) (k := ts.length) (.tmp 25) (.tmp 26) (sl_ b17 0 0 0) (.slice A ts.length cap) (some 27) (by kernel_rfl) (by kernel_rfl) (by kernel_rfl) (by kernel_rfl) (by kernel_rfl) (by kernel_rfl) (by kernel_rfl) (SlT.slr (slt_blk (xs := ([] : List Trk)) (f := Trk.cells) (sz := 18) hb17 Trk.len rfl)) hy19 (fun u hu => by obtain ⟨z, _, hz⟩ := List.mem_flatMap.1 hu; exact Trk.one z u hz) (by first | omega | ((repeat first | rw [List.length_append] | rw [List.length_cons] | rw [List.length_nil] | rw [List.length_take] | rw [List.length_drop]) <;> omega)) (by omega) (by first | omega | ((repeat first | rw [List.length_append] | rw [List.length_cons] | rw [List.length_nil] | rw [List.length_take] | rw [List.length_drop]) <;> omega)) (by omega) ?_
 intro vv9 w19 hap
 obtain ⟨A19, cap19, rfl, hA19, hk19, own19x⟩ := app_many (f := Trk.cells) (xs := ([] : List Trk)) (ys := ts) (A := (some ⟨b17, 0, none⟩)) (cap := 0) hap hl19 Trk.len
 replace hk19 : Keep (only b17) w17 w19 := hk19.mono (fun i _ h => inA_some h)
 have own19 : ∀ q, inA A19 q → w.heap.size ≤ q := fun q hq => by rcases own19x q hq with h | h; (have h9 := inA_some h; show w.heap.size ≤ q; omega); (show w.heap.size ≤ q; omega)
 rw [List.nil_append] at hA19
 have hsz20 := Keep.size hk19
 replace hK0 := Keep.fr hK0 hk19
 have lt19 := SlT.lt hA19
 have hcap19 := SlT.cap_le hA19
 refine On 4 [28] <| Bx 98 [.slice A19 ts.length cap19, .slice none 0 0] ?_
 intro b21 w21 e21 hb21 k21 z21
 have hsz22 := Keep.size k21
 replace hK0 := hK0.tn k21
 have hb21lt := hb21.lt
 refine Ose [(2, pt b21),(3, nt 0)] <| V_ret ?_
 exact X_return _ rfl ⟨_, rfl, hK0⟩
end Go.Al
namespace Go.Al
open Go Go.RowKit Go.Proofs
inductive CA where
  | mk (k to n : Int) (A : Option Addr) (cap : Nat) (kids : List CA)
def CA.k : CA → Int | .mk x _ _ _ _ _ => x
def CA.to : CA → Int | .mk _ x _ _ _ _ => x
def CA.n : CA → Int | .mk _ _ x _ _ _ => x
def CA.A : CA → Option Addr | .mk _ _ _ x _ _ => x
def CA.cap : CA → Nat | .mk _ _ _ _ x _ => x
def CA.kids : CA → List CA | .mk _ _ _ _ _ x => x
def CA.cells (c : CA) : List Value := [nt c.k, nt c.to, nt c.n, .slice c.A c.kids.length c.cap]
theorem CA.len (c : CA) : c.cells.length = 4 := rfl
theorem CA.one (c : CA) : ∀ u ∈ c.cells, u.oneCell' = true := one_all' rfl
inductive RepIn (D : Nat → Prop) (w : World) : CA → Prop
  | mk0 {c : CA} (hs : ArgT w 4 CA.cells c.A c.cap c.kids) (hD : 0 < c.kids.length → ∀ q, inA c.A q → D q) (hk : ∀ x ∈ c.kids, RepIn D w x) : RepIn D w c
theorem RepIn.mk {D : Nat → Prop} {w : World} {c : CA} (hs : ArgT w 4 CA.cells c.A c.cap c.kids) (hD : ∀ q, inA c.A q → D q) (hk : ∀ x ∈ c.kids, RepIn D w x) : RepIn D w c := .mk0 hs (fun _ => hD) hk
def RepL (D : Nat → Prop) (w : World) (A : Option Addr) (cap : Nat) (l : List CA) : Prop := ArgT w 4 CA.cells A cap l ∧ (0 < l.length → ∀ q, inA A q → D q) ∧ ∀ x ∈ l, RepIn D w x
section
variable {D S : Nat → Prop} {w w' : World} {c : CA}
theorem ArgT.keepD {α : Type} {sz cap : Nat} {f : α → List Value} {A : Option Addr} {xs : List α} (h : ArgT w sz f A cap xs) (hk : Keep S w w') (hS : 0 < xs.length → ∀ q, inA A q → ¬ S q) : ArgT w' sz f A cap xs := by
  rcases h with h | ⟨b, o, L, h1, h2⟩
  · exact .inl h
  · rcases Nat.eq_zero_or_pos xs.length with h0 | h0
    · exact .inl (List.length_eq_zero_iff.1 h0)
    · exact .inr ⟨b, o, L, h1, h2.keep hk (hS h0 b (by rw [h1]; exact ⟨_, rfl, rfl⟩))⟩
theorem RepIn.keep (h : RepIn D w c) (hk : Keep S w w') (hd : ∀ q, D q → ¬ S q) : RepIn D w' c := by
  induction h with
  | mk0 hs hD _ ih => exact .mk0 (hs.keepD hk (fun h0 q hq => hd q (hD h0 q hq))) hD ih
theorem RepIn.quiet {N : Nat} (h : RepIn D w c) (hk : Keep (lb N w) w w') (hd : ∀ q, D q → ¬ lb N w q) : RepIn D w' c := h.keep hk hd
theorem RepIn.mono {D' : Nat → Prop} (h : RepIn D w c) (hd : ∀ q, D q → D' q) : RepIn D' w c := by
  induction h with
  | mk0 hs hD _ ih => exact .mk0 hs (fun h0 q hq => hd q (hD h0 q hq)) ih
theorem RepIn.l (h : RepIn D w c) : RepL D w c.A c.cap c.kids := by
  cases h with
  | mk0 hs hD hk => exact ⟨hs, hD, hk⟩
theorem RepIn.none {k to n : Int} {A : Option Addr} {cap : Nat} (hA : ∀ q, inA A q → D q) : RepIn D w (.mk k to n A cap []) := .mk (.inl rfl) hA (fun x hx => by cases hx)
theorem RepL.keep {A : Option Addr} {cap : Nat} {l : List CA} (h : RepL D w A cap l) (hk : Keep S w w') (hd : ∀ q, D q → ¬ S q) : RepL D w' A cap l := ⟨h.1.keepD hk (fun h0 q hq => hd q (h.2.1 h0 q hq)), h.2.1, fun x hx => (h.2.2 x hx).keep hk hd⟩
end
def stepC (b : Bool) (ok : CA → Bool) (c : CA) : Bool :=
  (decide (c.k = 1) && decide (c.kids.length = 0) && decide (c.to = 0) && decide (0 ≤ c.n ∧ c.n ≤ 1073741824)) ||
  (decide (c.k = 2) && decide (c.kids.length = 0) && decide (0 ≤ c.to ∧ c.to ≤ 9) && decide (0 ≤ c.n ∧ c.n ≤ 1073741824)) ||
  (decide (c.k = 3 ∨ c.k = 4) && decide (c.kids.length = 0) && decide (c.to = 0) && decide (0 ≤ c.n ∧ c.n ≤ 11)) ||
  (decide (c.k = 5) && b && decide (c.to = 0) && decide (c.n = 0) && decide (1 ≤ c.kids.length ∧ c.kids.length ≤ 4) && c.kids.all ok)
def okCA : Nat → CA → Bool
  | 0 => stepC false (fun _ => false)
  | f + 1 => stepC true (okCA f)
def ixC (ok : CA → Bool) : Nat → List CA → Int
  | _, [] => -1
  | i, x :: l => if ok x = true then ixC ok (i + 1) l else i
theorem ixC_ge (ok : CA → Bool) : ∀ (l : List CA) (i : Nat), decide (ixC ok i l ≥ 0) = !(l.all ok) := by
  intro l i
  rw [Bool.eq_iff_iff, decide_eq_true_eq]
  induction l generalizing i with
  | nil => simp [ixC]
  | cons x l ih =>
    rw [show ixC ok i (x :: l) = if ok x = true then ixC ok (i + 1) l else i from rfl, List.all_cons]
    by_cases h : ok x = true
    · rw [if_pos h, h, Bool.true_and]; exact ih (i + 1)
    · rw [if_neg h]; simp [h]
theorem ixC_drop {ok : CA → Bool} {l : List CA} {i : Nat} {x : CA} (h : l[i]? = some x) : ixC ok i (l.drop i) = if ok x = true then ixC ok (i + 1) (l.drop (i + 1)) else i := by
  obtain ⟨h1, rfl⟩ := List.getElem?_eq_some_iff.1 h
  rw [List.drop_eq_getElem_cons h1]; rfl
theorem cdIn_spec (n lo hi : Int) (w : World) : Calls Tryz.prog 82 #[nt n, nt lo, nt hi] w fun e w' => e = .returned (.bool (decide (lo ≤ n ∧ n ≤ hi))) ∧ w' = w := by
 refine eV ?_
 refine Vr <| On 1 [0, 1, 2] <| Oer <| On 4 [0, 2, 10] ?_
 by_cases hg1 : n ≥ lo
 ·
  exact Dt 10 hg1 <| Oen [6] <| Rr (.bool (decide (n ≤ hi))) ⟨by congr 2; simp only [Bool.decide_and]; by_cases h1 : lo ≤ n <;> simp [h1] <;> omega, rfl⟩
 exact Df 10 hg1 <| Oen [6] <| Rr (.bool false) ⟨by congr 2; simp only [Bool.decide_and]; by_cases h1 : lo ≤ n <;> simp [h1] <;> omega, rfl⟩
theorem cdAcc_spec (n : Int) (w : World) : Calls Tryz.prog 83 #[nt n] w fun e w' => e = .returned (.bool (decide (0 ≤ n ∧ n ≤ 9))) ∧ w' = w := by
 refine eV ?_
 exact Vr <| On 1 [0] <| Oer <| On 1 [3] <| Kq (cdIn_spec n 0 9 _) <| Oen [2] <| Rr (.bool (decide ((0 : Int) ≤ n ∧ n ≤ 9))) ⟨rfl, rfl⟩
theorem isCall1_spec (D : Nat → Prop) (c : CA) (dp : Int) (bd : Nat) (w : World) (ok : CA → Bool) (hIH : ∀ D x w, RepIn D w x → Calls Tryz.prog 59 #[.agg x.cells.toArray, nt (dp + 1)] w fun e w' => e = .returned (.bool (ok x)) ∧ Keep none_ w w') (hrep : RepIn D w c) (hbd : Blk w bd [nt dp] 3) (hdp : -1000 ≤ dp ∧ dp ≤ 1000) : Calls Tryz.prog 84 #[.agg c.cells.toArray, pt bd] w fun e w' => e = .returned (.bool (!(ok c))) ∧ Keep none_ w w' := by
 have hK0 := Keep.refl none_ w
 refine eV ?_
 refine Vr <| OI_box 26 (.tmp 0) (.agg (CA.cells c).toArray) (CA.cells c) (some 2) (by kernel_rfl) (by kernel_rfl) rfl ?_
 intro b1 w1 e1 hb1 k1 z1
 have hsz2 := Keep.size k1
 replace hbd := hbd.k0 k1
 replace hrep := RepIn.keep hrep k1 nk
 replace hK0 := hK0.tn k1
 have hb1lt := hb1.lt
 refine On 2 [1, 2] <| Oer <| La 0 (CA.cells c) 4 hb1 (take_all (CA.len _)) (CA.len _) <| Lr 0 (nt dp) hbd ?_
 have hw3 : i64.wrap (dp + 1) = dp + 1 := wrp
 refine On 3 [4, 6] <| Oq (u := nt (i64.wrap (dp + 1))) (v := nt (dp + 1)) 6 (by rw [hw3]) <| Kk (hIH D c _ hrep) fun w4 hk5 _ => ?_
 replace hK0 := hK0.tn hk5
 exact Oen [3] <| Rr (.bool (!(ok c))) ⟨rfl, hK0⟩
theorem ixc_spec (D : Nat → Prop) (A : Option Addr) (cap : Nat) (kl : List CA) (dp : Int) (bd : Nat) (w : World) (ok : CA → Bool) (hIH : ∀ D x w, RepIn D w x → Calls Tryz.prog 59 #[.agg x.cells.toArray, nt (dp + 1)] w fun e w' => e = .returned (.bool (ok x)) ∧ Keep none_ w w') (hrep : RepL D w A cap kl) (hbd : Blk w bd [nt dp] 3) (hdp : -1000 ≤ dp ∧ dp ≤ 1000) (hn4 : kl.length ≤ 1000000) : Calls Tryz.prog 106 #[.slice A kl.length cap, .func (.func 84) #[] #[pt bd]] w fun e w' => e = .returned (nt (ixC ok 0 kl)) ∧ Keep none_ w w' := by
 have hA := hrep.1
 have hK0 := Keep.refl none_ w
 refine eV ?_
 refine Vr <| On 1 [0, 1] <| Oe <| V_seq <| Vn [0, 1, 7, 8] <| V_block <| Vp [(0, .slice A kl.length cap),(1, .func (.func 84) #[] #[pt bd]),(7, nt (kl.length : Int)),(8, nt 0)] <| V_loop (fun k wI e => ∃ i : Nat, (k + i = kl.length) ∧ (ixC ok i (kl.drop i) = ixC ok 0 kl) ∧ Keep none_ w wI ∧ e = [(0, .slice A kl.length cap),(1, .func (.func 84) #[] #[pt bd]),(7, nt (kl.length : Int)),(8, nt (i : Int))]) kl.length ⟨0, rfl, rfl, Keep.refl _ _, rfl⟩ ?_
 rintro k2 w1 _ ⟨i, hki, hix, hk3, rfl⟩
 have hsz4 := Keep.size hk3
 replace hbd := hbd.k0 hk3
 replace hA := ArgT.keep0 hA hk3
 replace hrep := RepL.keep hrep hk3 nk
 replace hK0 := hK0.tn hk3
 have hzhk3 := Keep.size hk3
 refine Vn [0, 1, 7, 8, 9] <| V_seq <| Vi ((i : Int) < (kl.length : Int)) (fun hc5 => ?_) (fun hc5 => ?_)
 ·
  refine Vsk <| V_seq <| V_block <| Vr <| On 2 [0, 1, 5, 7, 8] <| Oer <| On 3 [0, 1, 5, 7, 8, 11, 12, 13] ?_
  obtain ⟨b6, o6, L6, rfl, hat6⟩ := ArgT.open_ hA (by first | omega | (simp only [List.length_map]; omega) | (simp; done) | (simp; omega))
  have hb6lt0 := ArgT.lt hA (by first | omega | (simp only [List.length_map]; omega) | (simp; done) | (simp; omega))
  have hb6lt := hat6.blk.lt
  refine Oi (b := b6) (o := o6) (len := kl.length) (cap := cap) (j := i) (some 14) 24 (.tmp 12) (.tmp 13) 26 4 48 .i64 ?_
  obtain ⟨x7, hx8⟩ := exAt (xs := kl) (i := i)
  refine OI_aggR 26 (.tmp 14) (o6 + i * 4) (CA.cells x7) (some 15) (by kernel_rfl) (by kernel_rfl) hat6.blk (m := 4) (by kernel_rfl) (AtR.elem' hat6 _ _ (es_at hx8)) (AtR.len hat6 (es_at hx8)) <| Kk (isCall1_spec D x7 dp bd _ ok hIH (hrep.2.2 x7 (List.mem_of_getElem? hx8)) hbd hdp) fun w9 hk10 _ => ?_
  replace hK0 := hK0.tn hk10
  replace hk3 := hk3.tn hk10
  refine Oe <| Vb (!(ok x7)) (fun hc12 => ?_) (fun hc12 => ?_)
  ·
   refine Vn [4] <| V_ret <| X_ret_block <| X_ret_then <| X_ret_then <| X_ret_block <| X_ret_then ?_
   have h9 : ixC ok 0 kl = (i : Int) := by rw [← hix, ixC_drop hx8, if_neg (by simpa using hc12)]
   exact Xr (nt (i : Int)) ⟨by rw [h9], hK0⟩
  refine V_skip <| X_block <| X_then <| V_region ?_
  have hw13 : i64.wrap ((i : Int) + 1) = ((i + 1 : Nat) : Int) := wrp
  refine On 1 [0, 1, 7, 18] <| Oq (u := nt (i64.wrap ((i : Int) + 1))) (v := nt ((i + 1 : Nat) : Int)) 18 (by rw [hw13]) <| Os 2 [(0, sl_ b6 o6 kl.length cap),(1, .func (.func 84) #[] #[pt bd]),(7, nt (kl.length : Int)),(8, nt ((i + 1 : Nat) : Int))] <| OI_end rfl ?_
  exact V_again (k2 - 1) (by omega) [(0, sl_ b6 o6 kl.length cap),(1, .func (.func 84) #[] #[pt bd]),(7, nt (kl.length : Int)),(8, nt ((i + 1 : Nat) : Int))] rfl ⟨i + 1, by omega, by rw [← hix, ixC_drop hx8, if_pos (by simpa using hc12)], hk3, rfl⟩
 refine V_exit <| X_exit_then <| X_exit_then <| X_exit_here <| X_then <| Vn [4] <| V_ret ?_
 have he : i = kl.length := by omega
 have h9 : ixC ok 0 kl = -1 := by rw [← hix, he, List.drop_length]; rfl
 exact Xr (nt (-1)) ⟨by rw [h9], hK0⟩
theorem ctc_spec (D : Nat → Prop) (A : Option Addr) (cap : Nat) (kl : List CA) (dp : Int) (bd : Nat) (w : World) (ok : CA → Bool) (hIH : ∀ D x w, RepIn D w x → Calls Tryz.prog 59 #[.agg x.cells.toArray, nt (dp + 1)] w fun e w' => e = .returned (.bool (ok x)) ∧ Keep none_ w w') (hrep : RepL D w A cap kl) (hbd : Blk w bd [nt dp] 3) (hdp : -1000 ≤ dp ∧ dp ≤ 1000) (hn4 : kl.length ≤ 1000000) : Calls Tryz.prog 85 #[.slice A kl.length cap, .func (.func 84) #[] #[pt bd]] w fun e w' => e = .returned (.bool (!(kl.all ok))) ∧ Keep none_ w w' := by
 have hA := hrep.1
 have hK0 := Keep.refl none_ w
 refine eV ?_
 refine Vr <| On 1 [0, 1] <| Oer <| On 2 [5, 6] <| Kk (ixc_spec D A cap kl dp bd _ ok hIH hrep hbd hdp hn4) fun w1 hk2 _ => ?_
 replace hK0 := hK0.tn hk2
 exact Oen [4] <| Rr (.bool (decide (ixC ok 0 kl ≥ 0))) ⟨by rw [ixC_ge], hK0⟩
theorem isCall_step (D : Nat → Prop) (c : CA) (dp : Int) (w : World) (ok : CA → Bool) (hIH : dp < 3 → ∀ D x w, RepIn D w x → Calls Tryz.prog 59 #[.agg x.cells.toArray, nt (dp + 1)] w fun e w' => e = .returned (.bool (ok x)) ∧ Keep none_ w w') (hrep : RepIn D w c) (hdp : -1000 ≤ dp ∧ dp ≤ 1000) : Calls Tryz.prog 59 #[.agg c.cells.toArray, nt dp] w fun e w' => e = .returned (.bool (stepC (decide (dp < 3)) ok c)) ∧ Keep none_ w w' := by
 have hK0 := Keep.refl none_ w
 refine eV ?_
 refine Vr <| OI_box 26 (.tmp 0) (.agg (CA.cells c).toArray) (CA.cells c) (some 2) (by kernel_rfl) (by kernel_rfl) rfl ?_
 intro b1 w1 e1 hb1 k1 z1
 have hsz2 := Keep.size k1
 replace hrep := RepIn.keep hrep k1 nk
 replace hK0 := hK0.tn k1
 have hb1lt := hb1.lt
 refine Bx 3 [nt dp] ?_
 intro b3 w3 e3 hb3 k3 z3
 have hsz4 := Keep.size k3
 replace hb1 := hb1.k0 k3
 replace hrep := RepIn.keep hrep k3 nk
 replace hK0 := hK0.tn k3
 have hb3lt := hb3.lt
 refine On 3 [2, 3] <| Oer <| On 1 [2, 3, 7] <| Lr 0 (nt c.k) hb1 <| On 4 [2, 3, 10] ?_
 by_cases hg5 : c.k = 5
 ·
  refine Oq (u := .bool (decide (c.k = 5))) (v := .bool true) 10 (by first | (rw [decide_eq_true hg5]; done) | (rw [decide_eq_true hg5]; rfl) | simp [hg5] | rfl) <| On 10 [2, 3, 5] <| Oe <| V_seq <| Vr <| On 1 [2, 3, 5, 16] <| Lr 0 (nt c.k) hb1 <| Oe <| V_block <| Vn [2, 3, 5, 17, 18] <| Vi (c.k = 1) (fun hc6 => ?_) (fun hc6 => ?_)
  ·
   refine Vr <| On 3 [2, 21, 22] <| Lr 1 (nt c.to) hb1 <| On 7 [2, 26] ?_
   by_cases hg7 : c.to = 0
   ·
    exact Oq (u := .bool (decide (c.to = 0))) (v := .bool true) 26 (by first | (rw [decide_eq_true hg7]; done) | (rw [decide_eq_true hg7]; rfl) | simp [hg7] | rfl) <| On 8 [26, 27] <| Lr 2 (nt c.n) hb1 <| Kq (cdIn_spec c.n 0 1073741824 _) <| Oen [4] <| V_ret <| X_ret_block <| X_ret_then <| Xr (.bool (decide ((0 : Int) ≤ c.n ∧ c.n ≤ 1073741824))) ⟨by congr 2; unfold stepC; simp_all <;> first | (intros; omega) | (intro h; simp_all), hK0⟩
   exact Oq (u := .bool (decide (c.to = 0))) (v := .bool false) 26 (by first | (rw [decide_eq_false hg7]; done) | (rw [decide_eq_false hg7]; rfl) | simp [hg7] | rfl) <| Oen [4] <| V_ret <| X_ret_block <| X_ret_then <| Xr (.bool false) ⟨by congr 2; unfold stepC; simp_all <;> first | (intros; omega) | (intro h; simp_all), hK0⟩
  refine Vn [2, 3, 5, 17, 31] <| Vi (c.k = 2) (fun hc11 => ?_) (fun hc11 => ?_)
  ·
   refine Vr <| On 3 [2, 34, 35] <| Lr 1 (nt c.to) hb1 <| Kq (cdAcc_spec c.to _) <| On 7 [2, 39] ?_
   by_cases hg15 : (0 : Int) ≤ c.to ∧ c.to ≤ 9
   ·
    exact Oq (u := .bool (decide ((0 : Int) ≤ c.to ∧ c.to ≤ 9))) (v := .bool true) 39 (by first | (rw [decide_eq_true hg15]; done) | (rw [decide_eq_true hg15]; rfl) | simp [hg15] | rfl) <| On 8 [39, 40] <| Lr 2 (nt c.n) hb1 <| Kq (cdIn_spec c.n 0 1073741824 _) <| Oen [4] <| V_ret <| X_ret_block <| X_ret_then <| Xr (.bool (decide ((0 : Int) ≤ c.n ∧ c.n ≤ 1073741824))) ⟨by congr 2; unfold stepC; simp_all <;> first | (intros; omega) | (intro h; simp_all), hK0⟩
   exact Oq (u := .bool (decide ((0 : Int) ≤ c.to ∧ c.to ≤ 9))) (v := .bool false) 39 (by first | (rw [decide_eq_false hg15]; done) | (rw [decide_eq_false hg15]; rfl) | simp [hg15] | rfl) <| Oen [4] <| V_ret <| X_ret_block <| X_ret_then <| Xr (.bool false) ⟨by congr 2; unfold stepC; simp_all <;> first | (intros; omega) | (intro h; simp_all), hK0⟩
  refine V_seq <| Vn [2, 3, 5, 17, 44] <| Vi (c.k = 3) (fun hc19 => ?_) (fun hc19 => ?_)
  ·
   refine Vsk <| Vi (c.k = 3) (fun hc20 => ?_) (fun hc20 => ?_)
   ·
    refine Vr <| On 3 [2, 48, 49] <| Lr 1 (nt c.to) hb1 <| On 7 [2, 53] ?_
    by_cases hg21 : c.to = 0
    ·
     exact Oq (u := .bool (decide (c.to = 0))) (v := .bool true) 53 (by first | (rw [decide_eq_true hg21]; done) | (rw [decide_eq_true hg21]; rfl) | simp [hg21] | rfl) <| On 8 [53, 54] <| Lr 2 (nt c.n) hb1 <| Kq (cdIn_spec c.n 0 11 _) <| Oen [4] <| V_ret <| X_ret_block <| X_ret_then <| Xr (.bool (decide ((0 : Int) ≤ c.n ∧ c.n ≤ 11))) ⟨by congr 2; unfold stepC; simp_all <;> first | (intros; omega) | (intro h; simp_all), hK0⟩
    exact Oq (u := .bool (decide (c.to = 0))) (v := .bool false) 53 (by first | (rw [decide_eq_false hg21]; done) | (rw [decide_eq_false hg21]; rfl) | simp [hg21] | rfl) <| Oen [4] <| V_ret <| X_ret_block <| X_ret_then <| Xr (.bool false) ⟨by congr 2; unfold stepC; simp_all <;> first | (intros; omega) | (intro h; simp_all), hK0⟩
   refine Vn [2, 3, 58] <| Vi (c.k = 5) (fun hc25 => ?_) (fun hc25 => ?_)
   ·
    refine Vr <| On 2 [2, 3, 6] <| Oer <| Lr 0 (nt dp) hb3 <| On 3 [2, 6, 63] ?_
    by_cases hg26 : dp < 3
    ·
     refine Oq (u := .bool (decide (dp < 3))) (v := .bool true) 63 (by first | (rw [decide_eq_true hg26]; done) | (rw [decide_eq_true hg26]; rfl) | simp [hg26] | rfl) <| On 4 [2, 6, 63, 64] <| Lr 1 (nt c.to) hb1 <| On 8 [2, 6, 68] ?_
     by_cases hg27 : c.to = 0
     ·
      refine Oq (u := .bool (decide (c.to = 0))) (v := .bool true) 68 (by first | (rw [decide_eq_true hg27]; done) | (rw [decide_eq_true hg27]; rfl) | simp [hg27] | rfl) <| On 9 [2, 6, 68, 69] <| Lr 2 (nt c.n) hb1 <| On 13 [2, 6, 73] ?_
      by_cases hg28 : c.n = 0
      ·
       refine Oq (u := .bool (decide (c.n = 0))) (v := .bool true) 73 (by first | (rw [decide_eq_true hg28]; done) | (rw [decide_eq_true hg28]; rfl) | simp [hg28] | rfl) <| On 14 [2, 6, 73, 74] <| Lr 3 (.slice c.A c.kids.length c.cap) hb1 <| On 16 [2, 6, 73, 76] <| Kq (cdIn_spec (c.kids.length : Int) 1 4 _) <| On 19 [2, 6, 79] ?_
       by_cases hg32 : (1 : Int) ≤ (c.kids.length : Int) ∧ (c.kids.length : Int) ≤ 4
       ·
        refine Oq (u := .bool (decide ((1 : Int) ≤ (c.kids.length : Int) ∧ (c.kids.length : Int) ≤ 4))) (v := .bool true) 79 (by first | (rw [decide_eq_true hg32]; done) | (rw [decide_eq_true hg32]; rfl) | simp [hg32] | rfl) <| On 20 [6, 79, 80] <| Lr 3 (.slice c.A c.kids.length c.cap) hb1 <| On 22 [79, 81, 82] <| Kk (ctc_spec D c.A c.cap c.kids dp b3 _ ok (hIH (by omega)) hrep.l hb3 hdp (by omega)) fun w33 hk34 _ => ?_
        replace hK0 := hK0.tn hk34
        exact Oen [4] <| V_ret <| X_ret_block <| X_ret_then <| Xr (.bool (!(!(c.kids.all ok)))) ⟨by congr 2; unfold stepC; simp_all <;> first | (intros; omega) | (intro h; simp_all), hK0⟩
       exact Oq (u := .bool (decide ((1 : Int) ≤ (c.kids.length : Int) ∧ (c.kids.length : Int) ≤ 4))) (v := .bool false) 79 (by first | (rw [decide_eq_false hg32]; done) | (rw [decide_eq_false hg32]; rfl) | simp [hg32] | rfl) <| Oen [4] <| V_ret <| X_ret_block <| X_ret_then <| Xr (.bool false) ⟨by congr 2; unfold stepC; simp_all <;> first | (intros; omega) | (intro h; simp_all), hK0⟩
      exact Oq (u := .bool (decide (c.n = 0))) (v := .bool false) 73 (by first | (rw [decide_eq_false hg28]; done) | (rw [decide_eq_false hg28]; rfl) | simp [hg28] | rfl) <| Oen [4] <| V_ret <| X_ret_block <| X_ret_then <| Xr (.bool false) ⟨by congr 2; unfold stepC; simp_all <;> first | (intros; omega) | (intro h; simp_all), hK0⟩
     exact Oq (u := .bool (decide (c.to = 0))) (v := .bool false) 68 (by first | (rw [decide_eq_false hg27]; done) | (rw [decide_eq_false hg27]; rfl) | simp [hg27] | rfl) <| Oen [4] <| V_ret <| X_ret_block <| X_ret_then <| Xr (.bool false) ⟨by congr 2; unfold stepC; simp_all <;> first | (intros; omega) | (intro h; simp_all), hK0⟩
    exact Oq (u := .bool (decide (dp < 3))) (v := .bool false) 63 (by first | (rw [decide_eq_false hg26]; done) | (rw [decide_eq_false hg26]; rfl) | simp [hg26] | rfl) <| Oen [4] <| V_ret <| X_ret_block <| X_ret_then <| Xr (.bool false) ⟨by congr 2; unfold stepC; simp_all <;> first | (intros; omega) | (intro h; simp_all), hK0⟩
   exact V_skip <| X_block <| X_then <| Vn [4] <| Rr (.bool false) ⟨by congr 2; unfold stepC; simp_all <;> first | (intros; omega) | (intro h; simp_all), hK0⟩
  refine V_region <| Oen [2, 3, 5, 17, 44] <| Vi (c.k = 4) (fun hc36 => ?_) (fun hc36 => ?_)
  ·
   refine Vr <| On 3 [2, 48, 49] <| Lr 1 (nt c.to) hb1 <| On 7 [2, 53] ?_
   by_cases hg37 : c.to = 0
   ·
    exact Oq (u := .bool (decide (c.to = 0))) (v := .bool true) 53 (by first | (rw [decide_eq_true hg37]; done) | (rw [decide_eq_true hg37]; rfl) | simp [hg37] | rfl) <| On 8 [53, 54] <| Lr 2 (nt c.n) hb1 <| Kq (cdIn_spec c.n 0 11 _) <| Oen [4] <| V_ret <| X_ret_block <| X_ret_then <| Xr (.bool (decide ((0 : Int) ≤ c.n ∧ c.n ≤ 11))) ⟨by congr 2; unfold stepC; simp_all <;> first | (intros; omega) | (intro h; simp_all), hK0⟩
   exact Oq (u := .bool (decide (c.to = 0))) (v := .bool false) 53 (by first | (rw [decide_eq_false hg37]; done) | (rw [decide_eq_false hg37]; rfl) | simp [hg37] | rfl) <| Oen [4] <| V_ret <| X_ret_block <| X_ret_then <| Xr (.bool false) ⟨by congr 2; unfold stepC; simp_all <;> first | (intros; omega) | (intro h; simp_all), hK0⟩
  refine Vn [2, 3, 58] <| Vi (c.k = 5) (fun hc41 => ?_) (fun hc41 => ?_)
  ·
   refine Vr <| On 2 [2, 3, 6] <| Oer <| Lr 0 (nt dp) hb3 <| On 3 [2, 6, 63] ?_
   by_cases hg42 : dp < 3
   ·
    refine Oq (u := .bool (decide (dp < 3))) (v := .bool true) 63 (by first | (rw [decide_eq_true hg42]; done) | (rw [decide_eq_true hg42]; rfl) | simp [hg42] | rfl) <| On 4 [2, 6, 63, 64] <| Lr 1 (nt c.to) hb1 <| On 8 [2, 6, 68] ?_
    by_cases hg43 : c.to = 0
    ·
     refine Oq (u := .bool (decide (c.to = 0))) (v := .bool true) 68 (by first | (rw [decide_eq_true hg43]; done) | (rw [decide_eq_true hg43]; rfl) | simp [hg43] | rfl) <| On 9 [2, 6, 68, 69] <| Lr 2 (nt c.n) hb1 <| On 13 [2, 6, 73] ?_
     by_cases hg44 : c.n = 0
     ·
      refine Oq (u := .bool (decide (c.n = 0))) (v := .bool true) 73 (by first | (rw [decide_eq_true hg44]; done) | (rw [decide_eq_true hg44]; rfl) | simp [hg44] | rfl) <| On 14 [2, 6, 73, 74] <| Lr 3 (.slice c.A c.kids.length c.cap) hb1 <| On 16 [2, 6, 73, 76] <| Kq (cdIn_spec (c.kids.length : Int) 1 4 _) <| On 19 [2, 6, 79] ?_
      by_cases hg48 : (1 : Int) ≤ (c.kids.length : Int) ∧ (c.kids.length : Int) ≤ 4
      ·
       refine Oq (u := .bool (decide ((1 : Int) ≤ (c.kids.length : Int) ∧ (c.kids.length : Int) ≤ 4))) (v := .bool true) 79 (by first | (rw [decide_eq_true hg48]; done) | (rw [decide_eq_true hg48]; rfl) | simp [hg48] | rfl) <| On 20 [6, 79, 80] <| Lr 3 (.slice c.A c.kids.length c.cap) hb1 <| On 22 [79, 81, 82] <| Kk (ctc_spec D c.A c.cap c.kids dp b3 _ ok (hIH (by omega)) hrep.l hb3 hdp (by omega)) fun w49 hk50 _ => ?_
       replace hK0 := hK0.tn hk50
       exact Oen [4] <| V_ret <| X_ret_block <| X_ret_then <| Xr (.bool (!(!(c.kids.all ok)))) ⟨by congr 2; unfold stepC; simp_all <;> first | (intros; omega) | (intro h; simp_all), hK0⟩
      exact Oq (u := .bool (decide ((1 : Int) ≤ (c.kids.length : Int) ∧ (c.kids.length : Int) ≤ 4))) (v := .bool false) 79 (by first | (rw [decide_eq_false hg48]; done) | (rw [decide_eq_false hg48]; rfl) | simp [hg48] | rfl) <| Oen [4] <| V_ret <| X_ret_block <| X_ret_then <| Xr (.bool false) ⟨by congr 2; unfold stepC; simp_all <;> first | (intros; omega) | (intro h; simp_all), hK0⟩
     exact Oq (u := .bool (decide (c.n = 0))) (v := .bool false) 73 (by first | (rw [decide_eq_false hg44]; done) | (rw [decide_eq_false hg44]; rfl) | simp [hg44] | rfl) <| Oen [4] <| V_ret <| X_ret_block <| X_ret_then <| Xr (.bool false) ⟨by congr 2; unfold stepC; simp_all <;> first | (intros; omega) | (intro h; simp_all), hK0⟩
    exact Oq (u := .bool (decide (c.to = 0))) (v := .bool false) 68 (by first | (rw [decide_eq_false hg43]; done) | (rw [decide_eq_false hg43]; rfl) | simp [hg43] | rfl) <| Oen [4] <| V_ret <| X_ret_block <| X_ret_then <| Xr (.bool false) ⟨by congr 2; unfold stepC; simp_all <;> first | (intros; omega) | (intro h; simp_all), hK0⟩
   exact Oq (u := .bool (decide (dp < 3))) (v := .bool false) 63 (by first | (rw [decide_eq_false hg42]; done) | (rw [decide_eq_false hg42]; rfl) | simp [hg42] | rfl) <| Oen [4] <| V_ret <| X_ret_block <| X_ret_then <| Xr (.bool false) ⟨by congr 2; unfold stepC; simp_all <;> first | (intros; omega) | (intro h; simp_all), hK0⟩
  exact V_skip <| X_block <| X_then <| Vn [4] <| Rr (.bool false) ⟨by congr 2; unfold stepC; simp_all <;> first | (intros; omega) | (intro h; simp_all), hK0⟩
 refine Oq (u := .bool (decide (c.k = 5))) (v := .bool false) 10 (by first | (rw [decide_eq_false hg5]; done) | (rw [decide_eq_false hg5]; rfl) | simp [hg5] | rfl) <| On 5 [2, 3, 10, 11] <| Lr 3 (.slice c.A c.kids.length c.cap) hb1 <| On 10 [2, 3, 5] <| Oe <| V_seq <| Vr <| On 1 [2, 3, 5, 16] <| Lr 0 (nt c.k) hb1 <| Oe <| V_block <| Vn [2, 3, 5, 17, 18] <| Vi (c.k = 1) (fun hc52 => ?_) (fun hc52 => ?_)
 ·
  refine Vr <| On 2 [2, 21] ?_
  by_cases hg53 : (c.kids.length : Int) = 0
  ·
   refine Oq (u := .bool (decide ((c.kids.length : Int) = 0))) (v := .bool true) 21 (by first | (rw [decide_eq_true hg53]; done) | (rw [decide_eq_true hg53]; rfl) | simp [hg53] | rfl) <| On 3 [2, 21, 22] <| Lr 1 (nt c.to) hb1 <| On 7 [2, 26] ?_
   by_cases hg54 : c.to = 0
   ·
    exact Oq (u := .bool (decide (c.to = 0))) (v := .bool true) 26 (by first | (rw [decide_eq_true hg54]; done) | (rw [decide_eq_true hg54]; rfl) | simp [hg54] | rfl) <| On 8 [26, 27] <| Lr 2 (nt c.n) hb1 <| Kq (cdIn_spec c.n 0 1073741824 _) <| Oen [4] <| V_ret <| X_ret_block <| X_ret_then <| Xr (.bool (decide ((0 : Int) ≤ c.n ∧ c.n ≤ 1073741824))) ⟨by congr 2; unfold stepC; simp_all <;> first | (intros; omega) | (intro h; simp_all), hK0⟩
   exact Oq (u := .bool (decide (c.to = 0))) (v := .bool false) 26 (by first | (rw [decide_eq_false hg54]; done) | (rw [decide_eq_false hg54]; rfl) | simp [hg54] | rfl) <| Oen [4] <| V_ret <| X_ret_block <| X_ret_then <| Xr (.bool false) ⟨by congr 2; unfold stepC; simp_all <;> first | (intros; omega) | (intro h; simp_all), hK0⟩
  exact Oq (u := .bool (decide ((c.kids.length : Int) = 0))) (v := .bool false) 21 (by first | (rw [decide_eq_false hg53]; done) | (rw [decide_eq_false hg53]; rfl) | simp [hg53] | rfl) <| Oen [4] <| V_ret <| X_ret_block <| X_ret_then <| Xr (.bool false) ⟨by congr 2; unfold stepC; simp_all <;> first | (intros; omega) | (intro h; simp_all), hK0⟩
 refine Vn [2, 3, 5, 17, 31] <| Vi (c.k = 2) (fun hc58 => ?_) (fun hc58 => ?_)
 ·
  refine Vr <| On 2 [2, 34] ?_
  by_cases hg59 : (c.kids.length : Int) = 0
  ·
   refine Oq (u := .bool (decide ((c.kids.length : Int) = 0))) (v := .bool true) 34 (by first | (rw [decide_eq_true hg59]; done) | (rw [decide_eq_true hg59]; rfl) | simp [hg59] | rfl) <| On 3 [2, 34, 35] <| Lr 1 (nt c.to) hb1 <| Kq (cdAcc_spec c.to _) <| On 7 [2, 39] ?_
   by_cases hg63 : (0 : Int) ≤ c.to ∧ c.to ≤ 9
   ·
    exact Oq (u := .bool (decide ((0 : Int) ≤ c.to ∧ c.to ≤ 9))) (v := .bool true) 39 (by first | (rw [decide_eq_true hg63]; done) | (rw [decide_eq_true hg63]; rfl) | simp [hg63] | rfl) <| On 8 [39, 40] <| Lr 2 (nt c.n) hb1 <| Kq (cdIn_spec c.n 0 1073741824 _) <| Oen [4] <| V_ret <| X_ret_block <| X_ret_then <| Xr (.bool (decide ((0 : Int) ≤ c.n ∧ c.n ≤ 1073741824))) ⟨by congr 2; unfold stepC; simp_all <;> first | (intros; omega) | (intro h; simp_all), hK0⟩
   exact Oq (u := .bool (decide ((0 : Int) ≤ c.to ∧ c.to ≤ 9))) (v := .bool false) 39 (by first | (rw [decide_eq_false hg63]; done) | (rw [decide_eq_false hg63]; rfl) | simp [hg63] | rfl) <| Oen [4] <| V_ret <| X_ret_block <| X_ret_then <| Xr (.bool false) ⟨by congr 2; unfold stepC; simp_all <;> first | (intros; omega) | (intro h; simp_all), hK0⟩
  exact Oq (u := .bool (decide ((c.kids.length : Int) = 0))) (v := .bool false) 34 (by first | (rw [decide_eq_false hg59]; done) | (rw [decide_eq_false hg59]; rfl) | simp [hg59] | rfl) <| Oen [4] <| V_ret <| X_ret_block <| X_ret_then <| Xr (.bool false) ⟨by congr 2; unfold stepC; simp_all <;> first | (intros; omega) | (intro h; simp_all), hK0⟩
 refine V_seq <| Vn [2, 3, 5, 17, 44] <| Vi (c.k = 3) (fun hc67 => ?_) (fun hc67 => ?_)
 ·
  refine Vsk <| Vi (c.k = 3) (fun hc68 => ?_) (fun hc68 => ?_)
  ·
   refine Vr <| On 2 [2, 48] ?_
   by_cases hg69 : (c.kids.length : Int) = 0
   ·
    refine Oq (u := .bool (decide ((c.kids.length : Int) = 0))) (v := .bool true) 48 (by first | (rw [decide_eq_true hg69]; done) | (rw [decide_eq_true hg69]; rfl) | simp [hg69] | rfl) <| On 3 [2, 48, 49] <| Lr 1 (nt c.to) hb1 <| On 7 [2, 53] ?_
    by_cases hg70 : c.to = 0
    ·
     exact Oq (u := .bool (decide (c.to = 0))) (v := .bool true) 53 (by first | (rw [decide_eq_true hg70]; done) | (rw [decide_eq_true hg70]; rfl) | simp [hg70] | rfl) <| On 8 [53, 54] <| Lr 2 (nt c.n) hb1 <| Kq (cdIn_spec c.n 0 11 _) <| Oen [4] <| V_ret <| X_ret_block <| X_ret_then <| Xr (.bool (decide ((0 : Int) ≤ c.n ∧ c.n ≤ 11))) ⟨by congr 2; unfold stepC; simp_all <;> first | (intros; omega) | (intro h; simp_all), hK0⟩
    exact Oq (u := .bool (decide (c.to = 0))) (v := .bool false) 53 (by first | (rw [decide_eq_false hg70]; done) | (rw [decide_eq_false hg70]; rfl) | simp [hg70] | rfl) <| Oen [4] <| V_ret <| X_ret_block <| X_ret_then <| Xr (.bool false) ⟨by congr 2; unfold stepC; simp_all <;> first | (intros; omega) | (intro h; simp_all), hK0⟩
   exact Oq (u := .bool (decide ((c.kids.length : Int) = 0))) (v := .bool false) 48 (by first | (rw [decide_eq_false hg69]; done) | (rw [decide_eq_false hg69]; rfl) | simp [hg69] | rfl) <| Oen [4] <| V_ret <| X_ret_block <| X_ret_then <| Xr (.bool false) ⟨by congr 2; unfold stepC; simp_all <;> first | (intros; omega) | (intro h; simp_all), hK0⟩
  refine Vn [2, 3, 58] <| Vi (c.k = 5) (fun hc74 => ?_) (fun hc74 => ?_)
  ·
   refine Vr <| On 2 [2, 3, 6] <| Oer <| Lr 0 (nt dp) hb3 <| On 3 [2, 6, 63] ?_
   by_cases hg75 : dp < 3
   ·
    refine Oq (u := .bool (decide (dp < 3))) (v := .bool true) 63 (by first | (rw [decide_eq_true hg75]; done) | (rw [decide_eq_true hg75]; rfl) | simp [hg75] | rfl) <| On 4 [2, 6, 63, 64] <| Lr 1 (nt c.to) hb1 <| On 8 [2, 6, 68] ?_
    by_cases hg76 : c.to = 0
    ·
     refine Oq (u := .bool (decide (c.to = 0))) (v := .bool true) 68 (by first | (rw [decide_eq_true hg76]; done) | (rw [decide_eq_true hg76]; rfl) | simp [hg76] | rfl) <| On 9 [2, 6, 68, 69] <| Lr 2 (nt c.n) hb1 <| On 13 [2, 6, 73] ?_
     by_cases hg77 : c.n = 0
     ·
      refine Oq (u := .bool (decide (c.n = 0))) (v := .bool true) 73 (by first | (rw [decide_eq_true hg77]; done) | (rw [decide_eq_true hg77]; rfl) | simp [hg77] | rfl) <| On 14 [2, 6, 73, 74] <| Lr 3 (.slice c.A c.kids.length c.cap) hb1 <| On 16 [2, 6, 73, 76] <| Kq (cdIn_spec (c.kids.length : Int) 1 4 _) <| On 19 [2, 6, 79] ?_
      by_cases hg81 : (1 : Int) ≤ (c.kids.length : Int) ∧ (c.kids.length : Int) ≤ 4
      ·
       refine Oq (u := .bool (decide ((1 : Int) ≤ (c.kids.length : Int) ∧ (c.kids.length : Int) ≤ 4))) (v := .bool true) 79 (by first | (rw [decide_eq_true hg81]; done) | (rw [decide_eq_true hg81]; rfl) | simp [hg81] | rfl) <| On 20 [6, 79, 80] <| Lr 3 (.slice c.A c.kids.length c.cap) hb1 <| On 22 [79, 81, 82] <| Kk (ctc_spec D c.A c.cap c.kids dp b3 _ ok (hIH (by omega)) hrep.l hb3 hdp (by omega)) fun w82 hk83 _ => ?_
       replace hK0 := hK0.tn hk83
       exact Oen [4] <| V_ret <| X_ret_block <| X_ret_then <| Xr (.bool (!(!(c.kids.all ok)))) ⟨by congr 2; unfold stepC; simp_all <;> first | (intros; omega) | (intro h; simp_all), hK0⟩
      exact Oq (u := .bool (decide ((1 : Int) ≤ (c.kids.length : Int) ∧ (c.kids.length : Int) ≤ 4))) (v := .bool false) 79 (by first | (rw [decide_eq_false hg81]; done) | (rw [decide_eq_false hg81]; rfl) | simp [hg81] | rfl) <| Oen [4] <| V_ret <| X_ret_block <| X_ret_then <| Xr (.bool false) ⟨by congr 2; unfold stepC; simp_all <;> first | (intros; omega) | (intro h; simp_all), hK0⟩
     exact Oq (u := .bool (decide (c.n = 0))) (v := .bool false) 73 (by first | (rw [decide_eq_false hg77]; done) | (rw [decide_eq_false hg77]; rfl) | simp [hg77] | rfl) <| Oen [4] <| V_ret <| X_ret_block <| X_ret_then <| Xr (.bool false) ⟨by congr 2; unfold stepC; simp_all <;> first | (intros; omega) | (intro h; simp_all), hK0⟩
    exact Oq (u := .bool (decide (c.to = 0))) (v := .bool false) 68 (by first | (rw [decide_eq_false hg76]; done) | (rw [decide_eq_false hg76]; rfl) | simp [hg76] | rfl) <| Oen [4] <| V_ret <| X_ret_block <| X_ret_then <| Xr (.bool false) ⟨by congr 2; unfold stepC; simp_all <;> first | (intros; omega) | (intro h; simp_all), hK0⟩
   exact Oq (u := .bool (decide (dp < 3))) (v := .bool false) 63 (by first | (rw [decide_eq_false hg75]; done) | (rw [decide_eq_false hg75]; rfl) | simp [hg75] | rfl) <| Oen [4] <| V_ret <| X_ret_block <| X_ret_then <| Xr (.bool false) ⟨by congr 2; unfold stepC; simp_all <;> first | (intros; omega) | (intro h; simp_all), hK0⟩
  exact V_skip <| X_block <| X_then <| Vn [4] <| Rr (.bool false) ⟨by congr 2; unfold stepC; simp_all <;> first | (intros; omega) | (intro h; simp_all), hK0⟩
 refine V_region <| Oen [2, 3, 5, 17, 44] <| Vi (c.k = 4) (fun hc85 => ?_) (fun hc85 => ?_)
 ·
  refine Vr <| On 2 [2, 48] ?_
  by_cases hg86 : (c.kids.length : Int) = 0
  ·
   refine Oq (u := .bool (decide ((c.kids.length : Int) = 0))) (v := .bool true) 48 (by first | (rw [decide_eq_true hg86]; done) | (rw [decide_eq_true hg86]; rfl) | simp [hg86] | rfl) <| On 3 [2, 48, 49] <| Lr 1 (nt c.to) hb1 <| On 7 [2, 53] ?_
   by_cases hg87 : c.to = 0
   ·
    exact Oq (u := .bool (decide (c.to = 0))) (v := .bool true) 53 (by first | (rw [decide_eq_true hg87]; done) | (rw [decide_eq_true hg87]; rfl) | simp [hg87] | rfl) <| On 8 [53, 54] <| Lr 2 (nt c.n) hb1 <| Kq (cdIn_spec c.n 0 11 _) <| Oen [4] <| V_ret <| X_ret_block <| X_ret_then <| Xr (.bool (decide ((0 : Int) ≤ c.n ∧ c.n ≤ 11))) ⟨by congr 2; unfold stepC; simp_all <;> first | (intros; omega) | (intro h; simp_all), hK0⟩
   exact Oq (u := .bool (decide (c.to = 0))) (v := .bool false) 53 (by first | (rw [decide_eq_false hg87]; done) | (rw [decide_eq_false hg87]; rfl) | simp [hg87] | rfl) <| Oen [4] <| V_ret <| X_ret_block <| X_ret_then <| Xr (.bool false) ⟨by congr 2; unfold stepC; simp_all <;> first | (intros; omega) | (intro h; simp_all), hK0⟩
  exact Oq (u := .bool (decide ((c.kids.length : Int) = 0))) (v := .bool false) 48 (by first | (rw [decide_eq_false hg86]; done) | (rw [decide_eq_false hg86]; rfl) | simp [hg86] | rfl) <| Oen [4] <| V_ret <| X_ret_block <| X_ret_then <| Xr (.bool false) ⟨by congr 2; unfold stepC; simp_all <;> first | (intros; omega) | (intro h; simp_all), hK0⟩
 refine Vn [2, 3, 58] <| Vi (c.k = 5) (fun hc91 => ?_) (fun hc91 => ?_)
 ·
  refine Vr <| On 2 [2, 3, 6] <| Oer <| Lr 0 (nt dp) hb3 <| On 3 [2, 6, 63] ?_
  by_cases hg92 : dp < 3
  ·
   refine Oq (u := .bool (decide (dp < 3))) (v := .bool true) 63 (by first | (rw [decide_eq_true hg92]; done) | (rw [decide_eq_true hg92]; rfl) | simp [hg92] | rfl) <| On 4 [2, 6, 63, 64] <| Lr 1 (nt c.to) hb1 <| On 8 [2, 6, 68] ?_
   by_cases hg93 : c.to = 0
   ·
    refine Oq (u := .bool (decide (c.to = 0))) (v := .bool true) 68 (by first | (rw [decide_eq_true hg93]; done) | (rw [decide_eq_true hg93]; rfl) | simp [hg93] | rfl) <| On 9 [2, 6, 68, 69] <| Lr 2 (nt c.n) hb1 <| On 13 [2, 6, 73] ?_
    by_cases hg94 : c.n = 0
    ·
     refine Oq (u := .bool (decide (c.n = 0))) (v := .bool true) 73 (by first | (rw [decide_eq_true hg94]; done) | (rw [decide_eq_true hg94]; rfl) | simp [hg94] | rfl) <| On 14 [2, 6, 73, 74] <| Lr 3 (.slice c.A c.kids.length c.cap) hb1 <| On 16 [2, 6, 73, 76] <| Kq (cdIn_spec (c.kids.length : Int) 1 4 _) <| On 19 [2, 6, 79] ?_
     by_cases hg98 : (1 : Int) ≤ (c.kids.length : Int) ∧ (c.kids.length : Int) ≤ 4
     ·
      refine Oq (u := .bool (decide ((1 : Int) ≤ (c.kids.length : Int) ∧ (c.kids.length : Int) ≤ 4))) (v := .bool true) 79 (by first | (rw [decide_eq_true hg98]; done) | (rw [decide_eq_true hg98]; rfl) | simp [hg98] | rfl) <| On 20 [6, 79, 80] <| Lr 3 (.slice c.A c.kids.length c.cap) hb1 <| On 22 [79, 81, 82] <| Kk (ctc_spec D c.A c.cap c.kids dp b3 _ ok (hIH (by omega)) hrep.l hb3 hdp (by omega)) fun w99 hk100 _ => ?_
      replace hK0 := hK0.tn hk100
      exact Oen [4] <| V_ret <| X_ret_block <| X_ret_then <| Xr (.bool (!(!(c.kids.all ok)))) ⟨by congr 2; unfold stepC; simp_all <;> first | (intros; omega) | (intro h; simp_all), hK0⟩
     exact Oq (u := .bool (decide ((1 : Int) ≤ (c.kids.length : Int) ∧ (c.kids.length : Int) ≤ 4))) (v := .bool false) 79 (by first | (rw [decide_eq_false hg98]; done) | (rw [decide_eq_false hg98]; rfl) | simp [hg98] | rfl) <| Oen [4] <| V_ret <| X_ret_block <| X_ret_then <| Xr (.bool false) ⟨by congr 2; unfold stepC; simp_all <;> first | (intros; omega) | (intro h; simp_all), hK0⟩
    exact Oq (u := .bool (decide (c.n = 0))) (v := .bool false) 73 (by first | (rw [decide_eq_false hg94]; done) | (rw [decide_eq_false hg94]; rfl) | simp [hg94] | rfl) <| Oen [4] <| V_ret <| X_ret_block <| X_ret_then <| Xr (.bool false) ⟨by congr 2; unfold stepC; simp_all <;> first | (intros; omega) | (intro h; simp_all), hK0⟩
   exact Oq (u := .bool (decide (c.to = 0))) (v := .bool false) 68 (by first | (rw [decide_eq_false hg93]; done) | (rw [decide_eq_false hg93]; rfl) | simp [hg93] | rfl) <| Oen [4] <| V_ret <| X_ret_block <| X_ret_then <| Xr (.bool false) ⟨by congr 2; unfold stepC; simp_all <;> first | (intros; omega) | (intro h; simp_all), hK0⟩
  exact Oq (u := .bool (decide (dp < 3))) (v := .bool false) 63 (by first | (rw [decide_eq_false hg92]; done) | (rw [decide_eq_false hg92]; rfl) | simp [hg92] | rfl) <| Oen [4] <| V_ret <| X_ret_block <| X_ret_then <| Xr (.bool false) ⟨by congr 2; unfold stepC; simp_all <;> first | (intros; omega) | (intro h; simp_all), hK0⟩
 exact V_skip <| X_block <| X_then <| Vn [4] <| Rr (.bool false) ⟨by congr 2; unfold stepC; simp_all <;> first | (intros; omega) | (intro h; simp_all), hK0⟩
theorem isCall_spec : ∀ (f : Nat), f ≤ 3 → ∀ (D : Nat → Prop) (c : CA) (w : World), RepIn D w c → Calls Tryz.prog 59 #[.agg c.cells.toArray, nt (3 - (f : Int))] w fun e w' => e = .returned (.bool (okCA f c)) ∧ Keep none_ w w'
  | 0, _, D, c, w, h => isCall_step D c 3 w (fun _ => false) (fun h => by omega) h (by omega)
  | f + 1, hf, D, c, w, h => by
    have h1 := isCall_step D c (3 - ((f + 1 : Nat) : Int)) w (okCA f) (fun _ D x w hx => by
      rw [show (3 - ((f + 1 : Nat) : Int) + 1) = 3 - (f : Int) by omega]; exact isCall_spec f (by omega) D x w hx) h (by omega)
    rw [decide_eq_true (by omega : 3 - ((f + 1 : Nat) : Int) < 3)] at h1
    exact h1
theorem isCall_top (D : Nat → Prop) (c : CA) (w : World) (h : RepIn D w c) : Calls Tryz.prog 59 #[.agg c.cells.toArray, nt 0] w fun e w' => e = .returned (.bool (okCA 3 c)) ∧ Keep none_ w w' := isCall_spec 3 (by omega) D c w h
theorem isC_spec (D : Nat → Prop) (c : CA) (w : World) (hrep : RepIn D w c) : Calls Tryz.prog 27 #[.agg c.cells.toArray] w fun e w' => e = .returned (.bool (okCA 3 c)) ∧ Keep none_ w w' := by
 have hK0 := Keep.refl none_ w
 refine eV ?_
 refine Vr <| OI_box 26 (.tmp 0) (.agg (CA.cells c).toArray) (CA.cells c) (some 1) (by kernel_rfl) (by kernel_rfl) rfl ?_
 intro b1 w1 e1 hb1 k1 z1
 have hsz2 := Keep.size k1
 replace hrep := RepIn.keep hrep k1 nk
 replace hK0 := hK0.tn k1
 have hb1lt := hb1.lt
 refine On 2 [1] <| Oer <| La 0 (CA.cells c) 4 hb1 (take_all (CA.len _)) (CA.len _) <| Kk (isCall_top D c _ hrep) fun w3 hk4 _ => ?_
 replace hK0 := hK0.tn hk4
 exact Oen [2] <| Rr (.bool (okCA 3 c)) ⟨rfl, hK0⟩
end Go.Al
namespace Go.Al
open Go Go.RowKit Go.Proofs
section
variable {H : Type} {enc : TypeId × Value → H} {P : Program} {w : World}
theorem read_sliceQ {t e : TypeId} {sz fuel : Nat} {A : Option Addr} {len cap : Nat} {y : DataW H × List MemPlace} {Q : List Value → Prop} (ht : P.underlying t = some (.slice e)) (hc : P.cellsOf e = sz) (hk0 : 0 < sz)
    (h : DataW.trod enc P w 0 (fun _ => true) true fuel t [.slice A len cap] = some y) (hQ : ∀ n cs z, n < fuel → DataW.trod enc P w 0 (fun _ => true) true n e cs = some z → cs.length = sz ∧ Q cs) :
    ∃ xs : List (List Value), xs.length = len ∧ (∀ x ∈ xs, Q x) ∧ ArgT w sz id A cap xs ∧ len ≤ cap ∧ cap ≤ maxLen := by
  rcases DataW.trod_slice ht h with ⟨hcs, _⟩ | ⟨a, len', cap', elems, rest, n, hfu, hcs, _, _, hl, hm, hlen, hel, _, _⟩
  · simp at hcs
    obtain ⟨rfl, rfl, rfl⟩ := hcs
    exact ⟨[], rfl, fun x hx => (by cases hx), .inl rfl, Nat.le_refl _, Nat.zero_le _⟩
  · simp at hcs
    obtain ⟨rfl, rfl, rfl⟩ := hcs
    rcases Nat.eq_zero_or_pos len with h0 | h0
    · subst h0
      exact ⟨[], rfl, fun x hx => (by cases hx), .inl rfl, hl, hm⟩
    have hx : ∀ i, i < len → ∃ cs, w.cells? 0 (a.add (i * sz)) sz = some cs ∧ cs.length = sz ∧ Q cs := by
      intro i hi
      have h1 := hel i hi
      rw [List.getElem?_eq_getElem (by omega), hc] at h1
      cases h2 : w.cells? 0 (a.add (i * sz)) sz with
      | none => rw [h2] at h1; cases h1
      | some cs =>
        rw [h2] at h1
        exact ⟨cs, rfl, hQ n cs _ (by omega) h1⟩
    obtain ⟨V, hV⟩ : ∃ V : Nat → List Value, ∀ i, i < len → w.cells? 0 (a.add (i * sz)) sz = some (V i) ∧ (V i).length = sz ∧ Q (V i) :=
      ⟨fun i => if h : i < len then Classical.choose (hx i h) else [], fun i hi => by simp only [hi, dif_pos]; exact Classical.choose_spec (hx i hi)⟩
    refine ⟨(List.range len).map V, by simp, ?_, ?_, hl, hm⟩
    · intro x hx
      obtain ⟨i, hi, rfl⟩ := List.mem_map.1 hx
      exact (hV i (List.mem_range.1 hi)).2.2
    · right
      obtain ⟨hc0, _⟩ := hV 0 h0
      obtain ⟨_, hl0, hcell⟩ := World.cells?_some hc0
      have h00 := hcell 0 hk0
      rw [Nat.zero_mul] at h00
      have hadd : (a.add 0).add 0 = a := by simp [Addr.add]
      rw [hadd] at h00
      have hsome : ∃ v, w.cell? a = some v := by rw [h00]; exact ⟨_, List.getElem?_eq_getElem (by omega)⟩
      obtain ⟨v, hv⟩ := hsome
      obtain ⟨b, o, sp⟩ := a
      unfold World.cell? at hv
      simp only at hv
      split at hv
      · rename_i c T f hb
        split at hv
        · cases hv
        · rename_i hsp
          obtain rfl : sp = none := by cases sp <;> simp_all
          refine ⟨b, o, c.toList, rfl, ⟨⟨T, f, by simpa using hb⟩, ?_, ?_⟩⟩
          · intro i e he
            simp only [List.map_id, List.getElem?_map] at he
            obtain ⟨j, hj, rfl⟩ := Option.map_eq_some_iff.1 he
            obtain ⟨hlt, rfl⟩ := List.getElem?_eq_some_iff.1 hj
            simp only [List.length_range] at hlt
            simp only [List.getElem_range]
            obtain ⟨_, hli, hci⟩ := World.cells?_some (hV i hlt).1
            apply List.ext_getElem?
            intro q
            rw [List.getElem?_take]
            split
            · rename_i hq
              have := hci q hq
              rw [add_plain, add_plain] at this
              rw [← this, List.getElem?_drop]
              simp [World.cell?, hb]
            · rename_i hq
              rw [List.getElem?_eq_none (by omega)]
          · intro e he
            simp only [List.map_id] at he
            obtain ⟨i, hi, rfl⟩ := List.mem_map.1 he
            exact (hV i (List.mem_range.1 hi)).2.1
      · cases hv
end
theorem lift_Q {α : Type} {f : α → List Value} {R : α → Prop} : ∀ xs : List (List Value),(∀ x ∈ xs, ∃ y, f y = x ∧ R y) → ∃ ys : List α, ys.map f = xs ∧ ∀ y ∈ ys, R y
  | [], _ => ⟨[], rfl, fun y hy => (by cases hy)⟩
  | x :: xs, h => by
    obtain ⟨y, hy, hr⟩ := h x (List.mem_cons_self ..)
    obtain ⟨ys, hys, hrs⟩ := lift_Q xs (fun z hz => h z (List.mem_cons_of_mem _ hz))
    refine ⟨y :: ys, by simp [hy, hys], fun z hz => ?_⟩
    rcases List.mem_cons.1 hz with rfl | hz
    · exact hr
    · exact hrs z hz
abbrev Bel (w : World) : Nat → Prop := fun q => q < w.heap.size
inductive CAok : CA → Prop
  | mk {c : CA} (h : c.kids.length ≤ maxLen) (hk : ∀ x ∈ c.kids, CAok x) : CAok c
theorem CAok.l {c : CA} (h : CAok c) : c.kids.length ≤ maxLen ∧ ∀ x ∈ c.kids, CAok x := by
  cases h with
  | mk h hk => exact ⟨h, hk⟩
theorem read_call {H : Type} {enc : TypeId × Value → H} {w : World} : ∀ (m : Nat) (cs : List Value) (y : DataW H × List MemPlace), DataW.trod enc Tryz.prog w 0 (fun _ => true) true m 26 cs = some y → ∃ c : CA, c.cells = cs ∧ RepIn (Bel w) w c ∧ CAok c
  | m, cs, y, h => by
    obtain ⟨xs, n, hm, _, hlen, hxl, hf⟩ := DataW.trod_struct Tryz.underlying26 h
    have hc4 : Tryz.prog.cellsOf 26 = 4 := by kernel_rfl
    have hc1 : Tryz.prog.cellsOf 3 = 1 := by kernel_rfl
    have hcs : Tryz.prog.cellsOf 24 = 1 := by kernel_rfl
    have hl4 : cs.length = 4 := hlen.trans hc4
    match cs, hl4 with
    | [v1, v2, v3, v4], _ =>
      have g0 : DataW.trod enc Tryz.prog w 0 (fun _ => true) true n 3 ([v1, v2, v3, v4].take (Tryz.prog.cellsOf 3)) = xs[0]? := hf 0 _ rfl
      have g1 : DataW.trod enc Tryz.prog w 0 (fun _ => true) true n 3 ([v2, v3, v4].take (Tryz.prog.cellsOf 3)) = xs[1]? := hf 1 _ rfl
      have g2 : DataW.trod enc Tryz.prog w 0 (fun _ => true) true n 3 ([v3, v4].take (Tryz.prog.cellsOf 3)) = xs[2]? := hf 2 _ rfl
      have g3 : DataW.trod enc Tryz.prog w 0 (fun _ => true) true n 24 ([v4].take (Tryz.prog.cellsOf 24)) = xs[3]? := hf 3 _ rfl
      rw [hc1] at g0 g1 g2
      rw [hcs] at g3
      have hx4 : xs.length = 4 := hxl
      rw [List.getElem?_eq_getElem (by omega)] at g0 g1 g2 g3
      obtain ⟨z1, e1, _, _⟩ := DataW.trod_int Tryz.underlying3 g0
      obtain ⟨z2, e2, _, _⟩ := DataW.trod_int Tryz.underlying3 g1
      obtain ⟨z3, e3, _, _⟩ := DataW.trod_int Tryz.underlying3 g2
      have e1' : v1 = nt z1 := by have h9 : [v1] = [Value.int .i64 z1] := e1; cases h9; rfl
      have e2' : v2 = nt z2 := by have h9 : [v2] = [Value.int .i64 z2] := e2; cases h9; rfl
      have e3' : v3 = nt z3 := by have h9 : [v3] = [Value.int .i64 z3] := e3; cases h9; rfl
      have g4 : DataW.trod enc Tryz.prog w 0 (fun _ => true) true n 24 [v4] = some xs[3] := g3
      obtain ⟨A, len, cap, e4⟩ : ∃ A len cap, v4 = .slice A len cap := by
        rcases DataW.trod_slice Tryz.underlying24 g4 with ⟨hq, _⟩ | ⟨a, len, cap, _, _, _, _, hq, _⟩
        · exact ⟨none, 0, 0, by simpa using hq⟩
        · exact ⟨some a, len, cap, by simpa using hq⟩
      subst e1' e2' e3' e4
      obtain ⟨ks, hk1, hk2, hk3, hk4, hk5⟩ := read_sliceQ (sz := 4) (Q := fun cs => ∃ c : CA, c.cells = cs ∧ RepIn (Bel w) w c ∧ CAok c) Tryz.underlying24 (by kernel_rfl) (by decide) g4 (fun n' cs' z' hn' hz' => by
        have hr := read_call n' cs' z' hz'
        exact ⟨by obtain ⟨c, hc, _⟩ := hr; rw [← hc]; exact CA.len c, hr⟩)
      obtain ⟨kl, hkl, hkr⟩ := lift_Q (f := CA.cells) ks hk2
      subst hkl
      have hA := hk3.conv
      refine ⟨CA.mk z1 z2 z3 A cap kl, ?_, .mk0 hA (fun h0 q hq => ?_) (fun x hx => (hkr x hx).1), .mk ?_ (fun x hx => (hkr x hx).2)⟩
      · have hkl2 : kl.length = len := by simpa using hk1
        show [Value.int .i64 z1, nt z2, nt z3, .slice A kl.length cap] = _
        rw [hkl2]
      · obtain ⟨b, o, L, hb, _⟩ := hA.open_ h0
        obtain ⟨a, ha, rfl⟩ := hq
        have hb2 : A = some ⟨b, o, none⟩ := hb
        rw [hb2] at ha hA; cases ha
        exact ArgT.lt hA h0
      · have hkl2 : kl.length = len := by simpa using hk1
        show kl.length ≤ maxLen
        omega
  termination_by m => m
  decreasing_by omega
end Go.Al
namespace Go.Al
open Go Go.RowKit Go.Proofs
theorem size_step (D : Nat → Prop) (k to m0 : Int) (A : Option Addr) (cap : Nat) (kl : List CA) (w : World) (hIH : ∀ x ∈ kl, ∀ (D : Nat → Prop) w, RepIn D w x → Calls Tryz.prog 14 #[.agg x.cells.toArray] w fun e w' => ∃ m : Int, e = .returned (nt m) ∧ Keep none_ w w') (hmx : kl.length ≤ 9223372036854775807) (hrep : RepL D w A cap kl) : Calls Tryz.prog 14 #[.agg #[nt k, nt to, nt m0, .slice A kl.length cap]] w fun e w' => ∃ m : Int, e = .returned (nt m) ∧ Keep none_ w w' := by
 have hA0 := hrep.1
 have hA := hA0
 have hK0 := Keep.refl none_ w
 refine eV ?_
 refine Vr <| Bx 26 [nt k, nt to, nt m0, .slice A kl.length cap] ?_
 intro b1 w1 e1 hb1 k1 z1
 have hsz2 := Keep.size k1
 replace hA := ArgT.keep0 hA k1
 replace hrep := RepL.keep hrep k1 nk
 replace hK0 := hK0.tn k1
 have hb1lt := hb1.lt
 refine On 2 [1] <| Oer <| On 1 [1, 5] <| Lr 3 (.slice A kl.length cap) hb1 <| On 5 [1, 3] <| Oe <| V_seq <| Vn [1, 3, 4] <| V_block <| Vp [(1, pt b1),(3, nt (i64.wrap (1 + (kl.length : Int)))),(4, nt 0)] <| V_loop (fun k wI e => ∃ i : Nat, ∃ n : Int, (k + i = kl.length) ∧ Keep none_ w1 wI ∧ e = [(1, pt b1),(3, nt n),(4, nt (i : Int))]) kl.length ⟨0, i64.wrap (1 + (kl.length : Int)), by omega, Keep.refl _ _, rfl⟩ ?_
 rintro k4 w3 _ ⟨i, n, hki, hk5, rfl⟩
 have hsz6 := Keep.size hk5
 replace hb1 := hb1.k0 hk5
 replace hA := ArgT.keep0 hA hk5
 replace hrep := RepL.keep hrep hk5 nk
 replace hK0 := hK0.tn hk5
 have hzhk5 := Keep.size hk5
 refine V_seq <| Vr <| On 2 [1, 3, 4, 9, 10] <| Lr 3 (.slice A kl.length cap) hb1 <| On 6 [1, 3, 4, 14] ?_
 by_cases hg7 : (i : Int) < (kl.length : Int)
 ·
  refine Dt 14 hg7 <| Oen [1, 3, 4, 15, 16, 17] <| Vi (n < 300) (fun hc8 => ?_) (fun hc8 => ?_)
  ·
   refine Vsk <| V_seq <| V_block <| V_region <| On 2 [1, 4, 15, 16, 20, 21] <| Lr 3 (.slice A kl.length cap) hb1 <| On 4 [1, 4, 15, 16, 20, 22, 23] ?_
   obtain ⟨b9, o9, L9, rfl, hat9⟩ := ArgT.open_ hA (by first | omega | (simp only [List.length_map]; omega) | (simp; done) | (simp; omega))
   have hb9lt0 := ArgT.lt hA0 (by first | omega | (simp only [List.length_map]; omega) | (simp; done) | (simp; omega))
   have hb9lt := hat9.blk.lt
   refine Oi (b := b9) (o := o9) (len := kl.length) (cap := cap) (j := i) (some 24) 24 (.tmp 22) (.tmp 23) 26 4 48 .i64 ?_
   obtain ⟨x10, hx11⟩ := exAt (xs := kl) (i := i)
   refine OI_aggR 26 (.tmp 24) (o9 + i * 4) (CA.cells x10) (some 25) (by kernel_rfl) (by kernel_rfl) hat9.blk (m := 4) (by kernel_rfl) (AtR.elem' hat9 _ _ (es_at hx11)) (AtR.len hat9 (es_at hx11)) <| Ok (kL 14 #[(.tmp 25)] #[26]) 14 #[.agg (CA.cells x10).toArray] (some 26) (hIH x10 (List.mem_of_getElem? hx11) _ _ (hrep.2.2 x10 (List.mem_of_getElem? hx11))) ?_
   rintro _ w12 ⟨m14, rfl, hk13⟩
   refine ⟨_, rfl, ?_⟩
   have hsz15 := Keep.size hk13
   replace hk5 := hk5.tn hk13
   refine On 9 [1, 3, 4, 15, 16] <| OI_end rfl <| X_block <| X_then <| V_region ?_
   have hw16 : i64.wrap ((i : Int) + 1) = ((i + 1 : Nat) : Int) := wrp
   refine On 2 [1, 3, 15, 16, 19] <| Oq (u := nt (i64.wrap ((i : Int) + 1))) (v := nt ((i + 1 : Nat) : Int)) 19 (by rw [hw16]) <| Os 3 [(1, pt b1),(3, nt (i64.wrap (n + m14))),(4, nt ((i + 1 : Nat) : Int)),(15, nt n),(16, .bool (decide (n < 300)))] <| OI_end rfl ?_
   exact V_again (k4 - 1) (by omega) [(1, pt b1),(3, nt (i64.wrap (n + m14))),(4, nt ((i + 1 : Nat) : Int))] rfl ⟨i + 1, i64.wrap (n + m14), by omega, hk5, rfl⟩
  exact V_exit <| X_exit_then <| X_exit_then <| X_exit_here <| X_then <| Vn [2] <| Rr (nt n) ⟨_, rfl, hK0⟩
 exact Df 14 hg7 <| Oen [1, 3, 4, 15, 16, 17] <| Vf <| V_exit <| X_exit_then <| X_exit_then <| X_exit_here <| X_then <| Vn [2] <| Rr (nt n) ⟨_, rfl, hK0⟩
theorem size_spec : ∀ (c : CA), CAok c → ∀ (D : Nat → Prop) (w : World), RepIn D w c → Calls Tryz.prog 14 #[.agg c.cells.toArray] w fun e w' => ∃ m : Int, e = .returned (nt m) ∧ Keep none_ w w'
  | .mk k to m0 A cap kl, hok, D, w, h => size_step D k to m0 A cap kl w (fun x hx D' w' h' => size_spec x (hok.l.2 x hx) D' w' h') (by have h9 := hok.l.1; unfold maxLen at h9; have h8 : kl.length ≤ 2 ^ 63 - 1 := h9; omega) h.l
  termination_by c => SizeOf.sizeOf c
  decreasing_by
    have := List.sizeOf_lt_of_mem hx
    simp only [CA.mk.sizeOf_spec]
    omega
end Go.Al
namespace Go.Al
open Go Go.RowKit Go.Proofs
structure RW where
  xs : List Acc
  cs : List Ci
  s : VS
  rs : List Rfm
def rwSub (ts : List Trk) (q : RW) (who of after : Int) (sum : Nat → Int) (now : Int) : RW := ⟨subX q.xs q.cs q.s ts q.rs who of after, q.cs, subS q.xs q.cs q.s ts q.rs who of after, subR q.xs q.cs q.s ts q.rs who of after sum now⟩
def rwCan (q : RW) (ref now : Int) : RW := ⟨q.xs, q.cs, canS q.s q.rs ref now, canR q.s q.rs ref now⟩
def rwKil (ts : List Trk) (q : RW) (ref now : Int) : RW := ⟨kilX q.xs ts q.rs ref, q.cs, kilS q.s q.rs ref now, kilR q.s q.rs ref now⟩
def rwTrn (q : RW) (a b n : Int) : RW := ⟨transX q.xs q.cs a b n, q.cs, q.s, q.rs⟩
abbrev RsA := List Evt × Int × RW
def spS (t : Trk) (c : CA) (u : RW) : RsA := if c.n > t.cap then ([], 10, u) else if transE u.xs u.cs 0 c.to c.n ≠ 0 then ([], transE u.xs u.cs 0 c.to c.n, rwTrn u 0 c.to c.n) else ([Evt.mk 3 c.to c.n], 0, rwTrn u 0 c.to c.n)
def batS (dk : CA → RW → RsA) : List CA → List Evt → RW → RsA
  | [], out, u => (out, 0, u)
  | x :: l, out, u => if (dk x u).2.1 ≠ 0 then (out ++ (dk x u).1, (dk x u).2.1, (dk x u).2.2) else batS dk l (out ++ (dk x u).1) (dk x u).2.2
def doS (ts : List Trk) (of now : Int) (dk : CA → RW → RsA) (c : CA) (u : RW) : RsA :=
  if c.k = 1 then ([Evt.mk 5 of c.n], 0, u) else if c.k = 2 then spS (trkA ts of) c u else if c.k = 5 then batS dk c.kids [] u
  else if c.k = 3 then (if (trkA ts of).rank < 1 then ([], 8, u) else (canL u.rs c.n, ongE u.rs c.n, rwCan u c.n now))
  else if (trkA ts of).rank < 2 then ([], 8, u) else (kilL u.xs ts u.rs c.n, ongE u.rs c.n, rwKil ts u c.n now)
def doC (ts : List Trk) (of now : Int) : Nat → CA → RW → RsA
  | 0 => doS ts of now (fun _ u => ([], 0, u))
  | f + 1 => doS ts of now (doC ts of now f)
def doD (ts : List Trk) (of now : Int) (c : CA) (u : RW) : RsA := if (trkO ts of).isSome = false ∨ okCA 3 c = false then ([], 1, u) else doC ts of now 3 c u
theorem spS_rs (t : Trk) (c : CA) (u : RW) : (spS t c u).2.2.rs = u.rs := by
  unfold spS
  split
  · rfl
  · split <;> rfl
theorem spS_s (t : Trk) (c : CA) (u : RW) : (spS t c u).2.2.s = u.s := by
  unfold spS
  split
  · rfl
  · split <;> rfl
theorem batS_go {dk : CA → RW → RsA} {l : List CA} {i : Nat} {x : CA} {es : List Evt} {u : RW} (h : l[i]? = some x) (he : (dk x u).2.1 = 0) : batS dk (l.drop i) es u = batS dk (l.drop (i + 1)) (es ++ (dk x u).1) (dk x u).2.2 := by
  obtain ⟨h1, rfl⟩ := List.getElem?_eq_some_iff.1 h
  rw [List.drop_eq_getElem_cons h1, batS, if_neg (fun h => h he)]
theorem batS_no {dk : CA → RW → RsA} {l : List CA} {i : Nat} {x : CA} {es : List Evt} {u : RW} (h : l[i]? = some x) (he : ¬ (dk x u).2.1 = 0) : batS dk (l.drop i) es u = (es ++ (dk x u).1, (dk x u).2.1, (dk x u).2.2) := by
  obtain ⟨h1, rfl⟩ := List.getElem?_eq_some_iff.1 h
  rw [List.drop_eq_getElem_cons h1, batS, if_pos he]
theorem batS_len {dk : CA → RW → RsA} {B : Nat} : ∀ (l : List CA) (es : List Evt) (u : RW),(∀ x ∈ l, ∀ u, (dk x u).1.length ≤ B) → (batS dk l es u).1.length ≤ es.length + l.length * B
  | [], es, u, _ => by simp [batS]
  | x :: l, es, u, h => by
    have h1 := h x (List.mem_cons_self ..) u
    rw [List.length_cons, Nat.succ_mul, batS]
    split
    · rw [List.length_append]; omega
    · have h2 := batS_len l (es ++ (dk x u).1) (dk x u).2.2 (fun y hy => h y (List.mem_cons_of_mem _ hy))
      rw [List.length_append] at h2; omega
theorem kilL_len (xs : List Acc) (ts : List Trk) (rs : List Rfm) (n : Int) : (kilL xs ts rs n).length ≤ 3 := by
  unfold kilL kilL1 kilL2
  split
  · split <;> split <;> simp
  · simp
theorem canL_len (rs : List Rfm) (n : Int) : (canL rs n).length ≤ 3 := by
  unfold canL
  split <;> simp
theorem spS_len (t : Trk) (c : CA) (u : RW) : (spS t c u).1.length ≤ 3 := by
  unfold spS
  split
  · simp
  · split <;> simp
theorem doS_len {ts : List Trk} {of now : Int} {dk : CA → RW → RsA} {B : Nat} (c : CA) (u : RW) (h : c.k = 5 → c.kids.length ≤ 4 ∧ ∀ x ∈ c.kids, ∀ u, (dk x u).1.length ≤ B) : (doS ts of now dk c u).1.length ≤ 3 + 4 * B := by
  unfold doS
  split
  · simp; omega
  · split
    · exact Nat.le_trans (spS_len _ _ _) (by omega)
    · split
      · rename_i h5
        have h1 := batS_len c.kids [] u (h h5).2
        have h2 := Nat.mul_le_mul_right B (h h5).1
        simp at h1; omega
      · split
        · split
          · simp
          · exact Nat.le_trans (canL_len _ _) (by omega)
        · split
          · simp
          · exact Nat.le_trans (kilL_len _ _ _ _) (by omega)
theorem stepC_kids {b : Bool} {ok : CA → Bool} {c : CA} (h : stepC b ok c = true) (h5 : c.k = 5) : b = true ∧ c.kids.length ≤ 4 ∧ ∀ x ∈ c.kids, ok x = true := by
  unfold stepC at h
  simp [h5] at h
  exact ⟨h.1.1.1.1, by omega, h.2⟩
theorem doC_len {ts : List Trk} {of now : Int} : ∀ (f : Nat), f ≤ 3 → ∀ (c : CA) (u : RW), okCA f c = true → (doC ts of now f c u).1.length ≤ 300 := by
  have h0 : ∀ (c : CA) (u : RW), okCA 0 c = true → (doC ts of now 0 c u).1.length ≤ 3 := fun c u h => doS_len (B := 0) c u (fun h5 => by have := stepC_kids h h5; simp at this)
  have h1 : ∀ (c : CA) (u : RW), okCA 1 c = true → (doC ts of now 1 c u).1.length ≤ 15 := fun c u h => doS_len (B := 3) c u (fun h5 => ⟨(stepC_kids h h5).2.1, fun x hx u => h0 x u ((stepC_kids h h5).2.2 x hx)⟩)
  have h2 : ∀ (c : CA) (u : RW), okCA 2 c = true → (doC ts of now 2 c u).1.length ≤ 63 := fun c u h => doS_len (B := 15) c u (fun h5 => ⟨(stepC_kids h h5).2.1, fun x hx u => h1 x u ((stepC_kids h h5).2.2 x hx)⟩)
  have h3 : ∀ (c : CA) (u : RW), okCA 3 c = true → (doC ts of now 3 c u).1.length ≤ 255 := fun c u h => doS_len (B := 63) c u (fun h5 => ⟨(stepC_kids h h5).2.1, fun x hx u => h2 x u ((stepC_kids h h5).2.2 x hx)⟩)
  intro f hf c u h
  match f, hf, h with
  | 0, _, h => exact Nat.le_trans (h0 c u h) (by omega)
  | 1, _, h => exact Nat.le_trans (h1 c u h) (by omega)
  | 2, _, h => exact Nat.le_trans (h2 c u h) (by omega)
  | 3, _, h => exact Nat.le_trans (h3 c u h) (by omega)
end Go.Al
