/-
  Put together out of 5 texts: Walks of the laws of act: a beginning. Walks of the laws of act: a remark is told, too much is refused. A spend, as the law says it. A batch, as the law says it. Walks of the laws of act: a batch.
-/
import Derived.Test.YtcaiibbhnalffaaGreatActBatchesB4
set_option maxRecDepth 10000
namespace Go.Al
open Go Go.RowKit Go.Proofs
set_option maxHeartbeats 2000000 in
theorem begin0 (A : Option Addr) (cap : Nat) (fs : List Int) (w : World) (hA0 : ArgT w 1 intc A cap fs) (hn : fs.length ≤ 100000) : Calls Tryz.prog 9 #[.slice A fs.length cap, nt 0] w fun e w' => ∃ b r g v l H F G xv yv zv, e = .returned (pt b) ∧ Blk w' b [pt l, pt v, pt r, .pointer xv, .pointer yv, .pointer zv] 38 ∧ Rfr H w' r g actTs [] ∧ VotT F w' v VS.zero ∧ Led G w' l (frX fs) [] ∧ Keep none_ w w' ∧ w.heap.size ≤ b ∧ (∀ q, H q → w.heap.size ≤ q ∧ q ≠ b) ∧ (∀ q, F q → w.heap.size ≤ q ∧ q ≠ b) ∧ (∀ q, G q → w.heap.size ≤ q ∧ q ≠ b) ∧ (∀ q, H q → ¬ F q) ∧ (∀ q, H q → ¬ G q) ∧ (∀ q, F q → ¬ G q) := by
 have hA := hA0
 have hK0 : Keep none_ w w := Keep.refl _ _
 have hzhK0 := Keep.size hK0
 refine eV ?_
 refine Vr <| On 1 [0, 1] <| Oer <| On 1 [0, 1, 5] <| Oe <| V_seq <| Vn [0, 1, 5, 6] <| V_block <| Vp [(0, .slice A fs.length cap), (1, nt 0), (5, .slice none 0 0), (6, nt 0)] <| V_loop (fun k wI e => ∃ i : Nat, ∃ A2 : Option Addr, ∃ cap2 : Nat, ∃ ms : List Int, (k + i = 10) ∧ (i ≤ 10) ∧ (ms = frL fs i) ∧ (SlT wI 1 intc A2 cap2 ms) ∧ (∀ q, inA A2 q → w.heap.size ≤ q) ∧ Keep none_ w wI ∧ e = [(0, .slice A fs.length cap), (1, nt 0), (5, .slice A2 ms.length cap2), (6, nt (i : Int))]) 10 ⟨0, none, 0, [], by omega, by omega, rfl, SlT.nil _ _ _, fun q h => (inA_none h).elim, Keep.refl _ _, rfl⟩ ?_
 rintro k2 w1 _ ⟨i, A2, cap2, ms, hki, hi10, hms, hA2, ow2, hk3, rfl⟩
 have hsz4 := Keep.size hk3
 replace hA := ArgT.keep0 hA hk3
 replace hK0 := hK0.tn hk3
 have hzhk3 := Keep.size hk3
 have lt2 := SlT.lt hA2
 have hml : ms.length = i := by rw [hms, frL_len]
 refine V_seq <| Vn [0, 1, 5, 6, 18] <| Vi ((i : Int) < 10) (fun hc5 => ?_) (fun hc5 => ?_)
 ·
  refine Vsk <| V_seq <| V_block <| Vr <| On 1 [0, 1, 6, 21] <| OI_slit (E := 3) (zv := nt 0) (sz := 1) (by_ := 8) 49 1 #[(0, (Operand.const (Value.int IntKind.i64 100)))] [nt 100] [nt 100] (some 22) (by kernel_rfl) (by kernel_rfl) (by kernel_rfl) (by omega) rfl (by omega) (by intro v hv; simp only [List.mem_cons, List.not_mem_nil, or_false] at hv; rcases hv with rfl <;> rfl) (by kernel_rfl) rfl ?_
  intro b6 w6 e6 hb6 k6 z6
  have hsz7 := Keep.size k6
  replace hA := ArgT.keep0 hA k6
  replace hA2 := hA2.keep0 k6
  replace hk3 := hk3.tn k6
  have hb6lt := hb6.lt
  refine OI_append (t := 49) (at2 := 49) (E := 3) (E2 := 3) (sz := 1) (by_ := 8) (zv := nt 0) (m := ms.length) (k := 1) (.tmp 21) (.tmp 22) (.slice A2 ms.length cap2) (sl_ b6 0 1 1) (some 23) (by kernel_rfl) (by kernel_rfl) (by kernel_rfl) (by kernel_rfl) (by kernel_rfl) (by kernel_rfl) (by kernel_rfl) (SlT.slr hA2) (slr_one hb6 (intc_len 100)) (intc_one 100) (by first | omega | (simp only [List.length_nil]; omega)) (by omega) (by first | omega | (simp only [List.length_nil]; omega)) (by omega) ?_
  intro vv9 w8 hap
  obtain ⟨A8, cap8, rfl, hA8, hk8, own8x⟩ := app_one (f := intc) (xs := ms) (x := 100) (A := A2) (cap := cap2) hap (fun x _ => intc_len x) (intc_len _)
  have own8 : ∀ q, inA A8 q → w.heap.size ≤ q := fun q hq => by rcases own8x q hq with h | h; exact ow2 q h; (show w.heap.size ≤ q; omega)
  have hsz9 := Keep.size hk8
  replace hA := ArgT.keep hA hk8 hA0 (fun k hk hs => by have h1 := ow2 k hs; have h2 := lt2 k hs; omega)
  replace hk3 := Keep.fresh hk3 hk8 (by intro i hi hs; first | exact hs | (exfalso; have h1 := ow2 i hs; have h2 := lt2 i hs; omega) | (have h1 := ow2 i hs; have h2 := lt2 i hs; show _ ∨ _; omega))
  have lt8 := SlT.lt hA8
  refine On 4 [0, 1, 5, 6] <| Oer <| Oen [0, 1, 5, 6, 27] <| Vi ((i : Int) < (fs.length : Int)) (fun hc10 => ?_) (fun hc10 => ?_)
  ·
   have hapl : (ms ++ [100]).length = i + 1 := by rw [List.length_append, hml]; rfl
   refine V_region <| On 4 [0, 1, 5, 6, 28, 29, 30, 31] ?_
   obtain ⟨b11, o11, L11, rfl, hat11⟩ := ArgT.open_ hA (by first | omega | (simp only [List.length_map]; omega) | (simp; done) | (simp; omega))
   have hb11lt0 := ArgT.lt hA0 (by first | omega | (simp only [List.length_map]; omega) | (simp; done) | (simp; omega))
   have hb11lt := hat11.blk.lt
   refine Oi (b := b11) (o := o11) (len := fs.length) (cap := cap) (j := i) (some 32) 49 (.tmp 30) (.tmp 31) 3 1 8 .i64 ?_
   obtain ⟨x12, hx13⟩ : ∃ x, fs[i]? = some x := ⟨_, List.getElem?_eq_getElem (by first | omega | (simp only [List.length_map]; omega))⟩
   refine OI_cellR 3 (.tmp 32) (o11 + i * 1) (nt x12) (some 33) (by kernel_rfl) (by kernel_rfl) hat11.blk (m := 1) (by kernel_rfl) (AtR.cell0 hat11 (es_at hx13) rfl) <| On 8 [0, 1, 5, 6, 28, 29, 35] ?_
   obtain ⟨b14, o14, L14, T14, rfl, hat14⟩ := SlT.open_ hA8 (by first | omega | (simp only [List.length_map]; omega) | (simp; done) | (simp; omega))
   have hb14lt := hat14.blk.lt
   have hob15 := own8 b14 ⟨_, rfl, rfl⟩
   have hob16 := lt8 b14 ⟨_, rfl, rfl⟩
   refine Oi (b := b14) (o := o14) (len := (ms ++ [100]).length) (cap := cap8) (j := i) (some 36) 49 (.tmp 28) (.tmp 29) 3 1 8 .i64 ?_
   obtain ⟨x17, hx18⟩ : ∃ x, (ms ++ [100])[i]? = some x := ⟨_, List.getElem?_eq_getElem (by first | omega | (simp only [List.length_map]; omega))⟩
   refine OI_set (m := 1) (kd := false) 3 (.tmp 36) (.tmp 35) (o14 + i * 1) (nt (IntKind.i64.wrap (100 + (bAnd x12 1023)))) [nt (IntKind.i64.wrap (100 + (bAnd x12 1023)))] none (by kernel_rfl) (by kernel_rfl) (by kernel_rfl) (At.blk hat14) (by kernel_rfl) (by kernel_rfl) rfl (by have h1 := At.room hat14; have h2 := At.le hat14; rw [List.length_map] at h2; omega) (by simp [Value.oneCell']) ?_
   intro w19 hn20 hk21 hz22
   have hat23 := At.set (y := (IntKind.i64.wrap (100 + (bAnd x12 1023)) : Int)) (k := 0) hat14 hx18 (by omega) (by simp [intc, over]) hn20
   have hsz24 := Keep.size hk21
   replace hk3 := Keep.fr hk3 hk21
   have hlhx25 : ((ms ++ [100]).set i (IntKind.i64.wrap (100 + (bAnd x12 1023)))).length = (ms ++ [100]).length := List.length_set
   have hx25 : ((ms ++ [100]).set i (IntKind.i64.wrap (100 + (bAnd x12 1023))))[i]? = some (IntKind.i64.wrap (100 + (bAnd x12 1023))) := by rw [List.getElem?_set_self (List.getElem?_eq_some_iff.1 hx18).1]
   refine Op_ [(0, sl_ b11 o11 fs.length cap), (1, nt 0), (5, sl_ b14 o14 ((ms ++ [100]).length) cap8), (6, nt (i : Int))] <| Oq (u := sl_ b14 o14 ((ms ++ [100]).length) cap8) (v := sl_ b14 o14 (((ms ++ [100]).set i (IntKind.i64.wrap (100 + (bAnd x12 1023)))).length) cap8) 5 (by rw [List.length_set]) <| OI_end rfl <| X_block <| X_then <| V_region ?_
   have hw26 : IntKind.i64.wrap ((i : Int) + 1) = ((i + 1 : Nat) : Int) := (wrap64_id (by omega) (by omega)).trans (by omega)
   refine On 2 [0, 1, 5, 20] <| Oq (u := nt (IntKind.i64.wrap ((i : Int) + 1))) (v := nt ((i + 1 : Nat) : Int)) 20 (by rw [hw26]) <| Os 3 [(0, sl_ b11 o11 fs.length cap), (1, nt 0), (5, sl_ b14 o14 (((ms ++ [100]).set i (IntKind.i64.wrap (100 + (bAnd x12 1023)))).length) cap8), (6, nt ((i + 1 : Nat) : Int))] <| OI_end rfl ?_
   exact V_again (k2 - 1) (by omega) [(0, sl_ b11 o11 fs.length cap), (1, nt 0), (5, sl_ b14 o14 (((ms ++ [100]).set i (IntKind.i64.wrap (100 + (bAnd x12 1023)))).length) cap8), (6, nt ((i + 1 : Nat) : Int))] rfl ⟨i + 1, (some ⟨b14, o14, none⟩), cap8, (ms ++ [100]).set i (IntKind.i64.wrap (100 + (bAnd x12 1023))), by omega, by omega, by rw [frL_step, ← hms, frA_some hx13, ← hml]; simp, At.slt hat23, (fun q h => by have h3 := inA_some h; omega), hk3, rfl⟩
  have hapl : (ms ++ [100]).length = i + 1 := by rw [List.length_append, hml]; rfl
  refine V_skip <| X_block <| X_then <| V_region ?_
  have hw27 : IntKind.i64.wrap ((i : Int) + 1) = ((i + 1 : Nat) : Int) := (wrap64_id (by omega) (by omega)).trans (by omega)
  refine On 2 [0, 1, 5, 20] <| Oq (u := nt (IntKind.i64.wrap ((i : Int) + 1))) (v := nt ((i + 1 : Nat) : Int)) 20 (by rw [hw27]) <| Os 3 [(0, .slice A fs.length cap), (1, nt 0), (5, .slice A8 ((ms ++ [100]).length) cap8), (6, nt ((i + 1 : Nat) : Int))] <| OI_end rfl ?_
  exact V_again (k2 - 1) (by omega) [(0, .slice A fs.length cap), (1, nt 0), (5, .slice A8 ((ms ++ [100]).length) cap8), (6, nt ((i + 1 : Nat) : Int))] rfl ⟨i + 1, A8, cap8, ms ++ [100], by omega, by omega, by rw [frL_step, ← hms, frA_none (by omega)], hA8, own8, hk3, rfl⟩
 refine V_exit <| X_exit_then <| X_exit_then <| X_exit_here <| X_then <| Vr <| On 1 [1, 5, 38] ?_
 have hie : i = 10 := by omega
 replace hms : ms = frL fs 10 := by rw [hms, hie]
 refine Kg (new_okA A2 cap2 ms _ (SlT.arg hA2) (by omega) (by rw [hms]; exact frL_ok fs)) ?_
 rintro _ w28 ⟨l30, F31, rfl, ho32, hk29, hge33⟩
 refine ⟨_, rfl, ?_⟩
 have hsz34 := Keep.size hk29
 replace hA2 := hA2.keep0 hk29
 replace hK0 := hK0.tn hk29
 replace ho32 : Led F31 w28 l30 (frX fs) [] := by rw [hms] at ho32; exact ho32
 have own35 : ∀ q, F31 q → w1.heap.size ≤ q := fun q hq => by have h1 := hge33 q hq; omega
 have lt36 := Led.lt ho32
 have dis37 : ∀ q, F31 q → ¬ inA A2 q := fun q h1 h2 => by have h3 := hge33 q h1; have h4 := lt2 q h2; omega
 have hl30lt : l30 < w28.heap.size := Led.lt ho32 _ (Led.at_ ho32)
 have hl30ge := hge33 _ (Led.at_ ho32)
 refine On 7 [1, 5, 7, 8] <| Oer <| On 1 [1, 7, 8, 43] <| Kg (rnew6_weak A2 cap2 ms _ (SlT.arg hA2) (by omega)) ?_
 rintro _ w38 ⟨pv40, n41, rfl, hk39⟩
 refine ⟨_, rfl, ?_⟩
 have hsz42 := Keep.size hk39
 replace hK0 := hK0.tn hk39
 replace ho32 := ho32.keep hk39 nk
 refine On 7 [1, 7, 8, 9] <| Oer <| Kg (tracks_spec _) ?_
 rintro _ w43 ⟨A45, cap45, rfl, hA45, ow45, hk44⟩
 refine ⟨_, rfl, ?_⟩
 have hsz46 := Keep.size hk44
 replace hK0 := hK0.tn hk44
 replace ho32 := ho32.keep hk44 nk
 have lt45 := SlT.lt hA45
 have dis47 : ∀ q, inA A45 q → ¬ F31 q := fun q h1 h2 => by have h3 := ow45 q h1; have h4 := lt36 q h2; omega
 refine Kg (rnw_spec A45 cap45 actTs _ hA45 actTs_ok) ?_
 rintro _ w48 ⟨r50, gg54, H51, rfl, hR52, hk49, hge53⟩
 refine ⟨_, rfl, ?_⟩
 have hsz55 := Keep.size hk49
 replace hK0 := hK0.tn hk49
 replace ho32 := ho32.keep hk49 nk
 have own56 : ∀ q, H51 q → w43.heap.size ≤ q := fun q hq => by have h1 := hge53 q hq; omega
 have lt57 := Rfr.lt hR52
 have dis58 : ∀ q, H51 q → ¬ inA A2 q := fun q h1 h2 => by have h3 := hge53 q h1; have h4 := lt2 q h2; omega
 have dis59 : ∀ q, H51 q → ¬ inA A45 q := fun q h1 h2 => by have h3 := hge53 q h1; have h4 := lt45 q h2; omega
 have dis60 : ∀ q, H51 q → ¬ F31 q := fun q h1 h2 => by have h3 := hge53 q h1; have h4 := lt36 q h2; omega
 have hr50lt : r50 < w48.heap.size := Rfr.lt hR52 _ (Rfr.at_ hR52)
 have hr50ge := hge53 _ (Rfr.at_ hR52)
 refine On 7 [1, 7, 8, 9, 11, 12] <| Oer <| Kg (tracks_spec _) ?_
 rintro _ w61 ⟨A63, cap63, rfl, hA63, ow63, hk62⟩
 refine ⟨_, rfl, ?_⟩
 have hsz64 := Keep.size hk62
 replace hK0 := hK0.tn hk62
 replace ho32 := ho32.keep hk62 nk
 replace hR52 := hR52.keep hk62 nk
 have lt63 := SlT.lt hA63
 have dis65 : ∀ q, inA A63 q → ¬ F31 q := fun q h1 h2 => by have h3 := ow63 q h1; have h4 := lt36 q h2; omega
 have dis66 : ∀ q, inA A63 q → ¬ H51 q := fun q h1 h2 => by have h3 := ow63 q h1; have h4 := lt57 q h2; omega
 refine Kg (rnew12_weak A63 cap63 actTs _ hA63 actTs_ok) ?_
 rintro _ w67 ⟨pv69, rfl, hk68⟩
 refine ⟨_, rfl, ?_⟩
 have hsz70 := Keep.size hk68
 replace hK0 := hK0.tn hk68
 replace ho32 := ho32.keep hk68 nk
 replace hR52 := hR52.keep hk68 nk
 refine On 7 [1, 7, 8, 9, 11, 12, 13] <| Oer <| On 1 [1, 7, 8, 9, 11, 12, 13, 57] <| Kg (new_votT _) ?_
 rintro _ w73 ⟨g75, F76, rfl, ho77, hk74, hge78⟩
 refine ⟨_, rfl, ?_⟩
 have hsz79 := Keep.size hk74
 replace hK0 := hK0.tn hk74
 replace ho32 := ho32.keep hk74 nk
 replace hR52 := hR52.keep hk74 nk
 have own80 : ∀ q, F76 q → w67.heap.size ≤ q := fun q hq => by have h1 := hge78 q hq; omega
 have lt81 := VotT.lt ho77
 have dis82 : ∀ q, F76 q → ¬ inA A2 q := fun q h1 h2 => by have h3 := hge78 q h1; have h4 := lt2 q h2; omega
 have dis83 : ∀ q, F76 q → ¬ inA A45 q := fun q h1 h2 => by have h3 := hge78 q h1; have h4 := lt45 q h2; omega
 have dis84 : ∀ q, F76 q → ¬ inA A63 q := fun q h1 h2 => by have h3 := hge78 q h1; have h4 := lt63 q h2; omega
 have dis85 : ∀ q, F76 q → ¬ F31 q := fun q h1 h2 => by have h3 := hge78 q h1; have h4 := lt36 q h2; omega
 have dis86 : ∀ q, F76 q → ¬ H51 q := fun q h1 h2 => by have h3 := hge78 q h1; have h4 := lt57 q h2; omega
 have hg75lt : g75 < w73.heap.size := VotT.lt ho77 _ (VotT.at_ ho77)
 have hg75ge := hge78 _ (VotT.at_ ho77)
 refine On 4 [1, 7, 8, 11, 12, 13, 57, 58, 59, 60] <| Kg (rnew11_weak _) ?_
 rintro _ w87 ⟨pv89, rfl, hk88⟩
 refine ⟨_, rfl, ?_⟩
 have hsz90 := Keep.size hk88
 replace hK0 := hK0.tn hk88
 replace ho32 := ho32.keep hk88 nk
 replace hR52 := hR52.keep hk88 nk
 replace ho77 := ho77.keep hk88 nk
 refine On 7 [1, 7, 8, 11, 12, 63] <| Bx 38 [pt l30, pt g75, pt r50, .pointer pv40, .pointer pv89, .pointer pv69] ?_
 intro b91 w91 e91 hb91 k91 z91
 have hsz92 := Keep.size k91
 replace hK0 := hK0.tn k91
 replace ho32 := ho32.keep k91 nk
 replace hR52 := hR52.keep k91 nk
 replace ho77 := ho77.keep k91 nk
 have hb91lt := hb91.lt
 refine On 9 [1, 7, 8, 11, 12, 15] <| Oe <| V_seq <| Vr <| On 18 [1, 15, 79, 82] <| Lr 1 (pt g75) hb91 <| Oen [1, 15, 85] <| Vf <| Vsk <| V_seq <| Vn [1, 15, 16] <| V_block <| Vp [(1, nt 0), (15, pt b91), (16, nt 0)] <| V_loop (fun k wI e => (k = 0) ∧ Keep none_ w91 wI ∧ e = [(1, nt 0), (15, pt b91), (16, nt 0)]) 0 ⟨rfl, Keep.refl _ _, rfl⟩ ?_
 rintro k94 w93 _ ⟨hk9, hk95, rfl⟩
 have hsz96 := Keep.size hk95
 replace hb91 := hb91.k0 hk95
 replace hK0 := hK0.tn hk95
 replace ho32 := ho32.keep hk95 nk
 replace hR52 := hR52.keep hk95 nk
 replace ho77 := ho77.keep hk95 nk
 have hzhk95 := Keep.size hk95
 refine V_seq <| Vn [1, 15, 16, 90, 91, 92] <| Vf <| V_exit <| X_exit_then <| X_exit_then <| X_exit_here <| X_then <| Vs [(4, pt b91)] <| V_ret ?_
 exact X_return _ rfl ⟨b91, r50, gg54, g75, l30, H51, F76, F31, pv40, pv89, pv69, rfl, hb91, hR52, ho77, ho32, hK0, by omega, (fun q hq => ⟨by have h1 := own56 q hq; omega, by have h1 := lt57 q hq; omega⟩), (fun q hq => ⟨by have h1 := own80 q hq; omega, by have h1 := lt81 q hq; omega⟩), (fun q hq => ⟨by have h1 := own35 q hq; omega, by have h1 := lt36 q hq; omega⟩), (fun q h1 h2 => dis86 q h2 h1), dis60, dis85⟩
end Go.Al

namespace Go.Al
open Go Go.RowKit Go.Proofs
theorem kn1 : doD actTs 1 0 (CA.mk 1 0 7 none 0 []) (acQ []) = ([Evt.mk 5 1 7], 0, acQ []) := by kernel_rfl
theorem kn2 : doD actTs 0 0 (CA.mk 2 1 6 none 0 []) (acQ []) = ([], 10, acQ []) := by kernel_rfl
set_option maxHeartbeats 2000000 in
theorem known_spec (w : World) : Calls Tryz.prog 12 #[] w (rk_ w (.bool true)) := by
 have hK0 : Keep none_ w w := Keep.refl _ _
 have hzhK0 := Keep.size hK0
 refine eV ?_
 refine Vr <| On 1 [] <| Oer <| Kg (begin0 none 0 [] _ (.inl rfl) (by simp)) ?_
 rintro _ w3 ⟨b5, r6, gg7, v8, l9, H10, F11, G12, xv13, yv14, zv15, rfl, hb16, hR17, hV18, hL19, hk4, hge20, oH21, oF22, oG23, dHF24, dHG25, dFG26⟩
 refine ⟨_, rfl, ?_⟩
 have hsz27 := Keep.size hk4
 replace hK0 := hK0.tn hk4
 have hb5lt := hb16.lt
 have own28 : ∀ q, H10 q → w.heap.size ≤ q ∧ q ≠ b5 := fun q hq => by have h1 := oH21 q hq; omega
 have lt29 := Rfr.lt hR17
 have own30 : ∀ q, F11 q → w.heap.size ≤ q ∧ q ≠ b5 := fun q hq => by have h1 := oF22 q hq; omega
 have lt31 := VotT.lt hV18
 have own32 : ∀ q, G12 q → w.heap.size ≤ q ∧ q ≠ b5 := fun q hq => by have h1 := oG23 q hq; omega
 have lt33 := Led.lt hL19
 replace hR17 : Rfr H10 w3 r6 gg7 actTs (acQ []).rs := hR17
 replace hV18 : VotT F11 w3 v8 ((acQ []).s) := hV18
 replace hL19 : Led G12 w3 l9 (acQ []).xs (acQ []).cs := hL19
 refine On 2 [1] <| Oe <| V_seq <| Vn [1, 8] <| Vf <| Vsk <| V_seq <| V_draws (acts [13]) none_ [[0, 1, 2, 3, 4, 5, 6, 7, 8, 9, 10, 11, 12, 13, 14, 15, 16, 17, 18]] (by kernel_rfl) (by repeat first | exact (by first | exact sure_body (by rintro _ _ ⟨_, _, h, _⟩; exact ⟨_, h⟩) | exact sure_body (by rintro _ _ ⟨_, _, _, _, _, _, _, _, _, _, _, h, _⟩; exact ⟨_, h⟩) | exact sure_body (by rintro _ _ ⟨h, _⟩; exact ⟨_, h⟩)) | refine sure_then ?_ | refine sure_block ?_ | refine sure_join ?_) (by kernel_rfl) ?_
 intro w35 hk34 he36 L hL37
 have hsz38 := Keep.size hk34
 replace hb16 := hb16.k0 hk34
 replace hK0 := hK0.tn hk34
 replace hR17 := hR17.keep hk34 nk
 replace hV18 := hV18.keep hk34 nk
 replace hL19 := hL19.keep hk34 nk
 have qhb16 := hb16
 have K39 : Keep none_ w35 w35 := Keep.refl _ _
 obtain rfl := List.mem_singleton.1 hL37
 refine Gn [3, 4, 5, 6, 7, 8, 9, 10, 11, 12, 13, 14, 15, 16, 17, 18] [1, 12] <| Mr 0 (pt l9) qhb16 <| Gn [7, 8, 9, 10, 11, 12, 13, 14, 15, 16, 17, 18] [1, 13, 16] <| Mr 1 (pt v8) qhb16 <| Gn [11, 12, 13, 14, 15, 16, 17, 18] [1, 13, 17, 20] <| Mr 2 (pt r6) qhb16 <| Gs [13, 14, 15, 16, 17, 18] [(1, pt b5), (13, pt l9), (17, pt v8), (21, pt r6), (22, .agg (CA.cells (CA.mk 1 0 7 none 0 [])).toArray)] <| Gk0 (kl 10 #[(.tmp 13), (.tmp 17), (.tmp 21), (.tmp 22), (.const (nt 1)), (.const (nt 0))] #[31, 32, 33, 26, 3, 3]) 10 #[pt l9, pt v8, pt r6, .agg (CA.cells (CA.mk 1 0 7 none 0 [])).toArray, nt 1, nt 0] (some 23) (do_spec none_ (CA.mk 1 0 7 none 0 []) r6 gg7 actTs v8 l9 1 0 H10 F11 G12 (acQ []) _ (RepIn.none (fun q h => (inA_none h).elim)) hR17 hV18 hL19 dHF24 dHG25 dFG26 (fun q h => h.elim)) ?_
 rintro _ w42 ⟨A44, cap44, rfl, hA44, ow44, ⟨F45, F48, F51, ho46, ho49, ho52, hfr47, hfr50, hfr53, hdis54, hdis55, hdis56, dA57, dA58, dA59⟩, hk43⟩
 refine ⟨_, rfl, ?_⟩
 have hsz60 := Keep.size hk43
 replace hb16 := hb16.keep hk43 (fun hs => by rcases hs with hs | hs | hs; (have u9 : _ = gg7 := hs; have u0 := own28 _ (Rfr.atg hR17); have u1 := lt29 _ (Rfr.atg hR17); omega); (have u0 := own30 _ hs; have u1 := lt31 _ hs; omega); (have u0 := own32 _ hs; have u1 := lt33 _ hs; omega))
 replace hK0 := Keep.fresh hK0 hk43 (by intro i hi hs; first | exact hs | (rcases hs with hs | hs | hs; (have u9 : _ = gg7 := hs; have u0 := own28 _ (Rfr.atg hR17); have u1 := lt29 _ (Rfr.atg hR17); omega); (have u0 := own30 i hs; have u1 := lt31 i hs; omega); (have u0 := own32 i hs; have u1 := lt33 i hs; omega)))
 have own62 : ∀ q, F45 q → w.heap.size ≤ q ∧ q ≠ b5 := fun q hq => by rcases hfr47 q hq with h | h; (have h1 := own28 q h; have h2 := lt29 q h; omega); omega
 have lt61 := Rfr.lt ho46
 have own64 : ∀ q, F48 q → w.heap.size ≤ q ∧ q ≠ b5 := fun q hq => by rcases hfr50 q hq with h | h; (have h1 := own30 q h; have h2 := lt31 q h; omega); omega
 have lt63 := VotT.lt ho49
 have own66 : ∀ q, F51 q → w.heap.size ≤ q ∧ q ≠ b5 := fun q hq => by rcases hfr53 q hq with h | h; (have h1 := own32 q h; have h2 := lt33 q h; omega); omega
 have lt65 := Led.lt ho52
 have ltA44 := SlT.lt hA44
 replace hA44 := SlT.ofE (xs := (doD actTs 1 0 (CA.mk 1 0 7 none 0 []) (acQ [])).1) hA44 (show _ = [Evt.mk 5 1 7] from by rw [kn1])
 replace ho46 : Rfr F45 w42 r6 gg7 actTs ((doD actTs 1 0 (CA.mk 1 0 7 none 0 []) (acQ [])).2.2).rs := ho46
 replace ho49 : VotT F48 w42 v8 (((doD actTs 1 0 (CA.mk 1 0 7 none 0 []) (acQ [])).2.2).s) := ho49
 replace ho52 : Led F51 w42 l9 ((doD actTs 1 0 (CA.mk 1 0 7 none 0 []) (acQ [])).2.2).xs ((doD actTs 1 0 (CA.mk 1 0 7 none 0 []) (acQ [])).2.2).cs := ho52
 rw [kn1] at ho46
 rw [kn1] at ho49
 rw [kn1] at ho52
 replace ho46 : Rfr F45 w42 r6 gg7 actTs (acQ []).rs := ho46
 replace ho49 : VotT F48 w42 v8 ((acQ []).s) := ho49
 replace ho52 : Led F51 w42 l9 (acQ []).xs (acQ []).cs := ho52
 refine Gp_ [(1, pt b5), (23, .tuple #[.slice A44 (((doD actTs 1 0 (CA.mk 1 0 7 none 0 []) (acQ [])).1).length) cap44, nt ((doD actTs 1 0 (CA.mk 1 0 7 none 0 []) (acQ [])).2.1)])] <| Gq_ (u := .tuple #[.slice A44 (((doD actTs 1 0 (CA.mk 1 0 7 none 0 []) (acQ [])).1).length) cap44, nt ((doD actTs 1 0 (CA.mk 1 0 7 none 0 []) (acQ [])).2.1)]) (v := .tuple #[.slice A44 1 cap44, nt 0]) 23 (by rw [show (doD actTs 1 0 (CA.mk 1 0 7 none 0 []) (acQ [])).1 = [Evt.mk 5 1 7] from by rw [kn1]]; rw [kn1]; rfl) <| Gn [] [1, 2, 3] <| GI_end <| X_then <| V_seq <| V_draws (acts [13]) none_ [[0, 1, 2, 3, 4, 5, 6, 7, 8, 9, 10, 11, 12, 13, 14, 15, 16, 17, 18]] (by kernel_rfl) (by repeat first | exact (by first | exact sure_body (by rintro _ _ ⟨_, _, h, _⟩; exact ⟨_, h⟩) | exact sure_body (by rintro _ _ ⟨_, _, _, _, _, _, _, _, _, _, _, h, _⟩; exact ⟨_, h⟩) | exact sure_body (by rintro _ _ ⟨h, _⟩; exact ⟨_, h⟩)) | refine sure_then ?_ | refine sure_block ?_ | refine sure_join ?_) (by kernel_rfl) ?_
 intro w68 hk67 he69 L hL70
 have hsz71 := Keep.size hk67
 replace hb16 := hb16.k0 hk67
 replace hA44 := hA44.keep0 hk67
 replace hK0 := hK0.tn hk67
 replace ho46 := ho46.keep hk67 nk
 replace ho49 := ho49.keep hk67 nk
 replace ho52 := ho52.keep hk67 nk
 have qhb16 := hb16
 have K72 : Keep none_ w68 w68 := Keep.refl _ _
 obtain rfl := List.mem_singleton.1 hL70
 refine Gn [3, 4, 5, 6, 7, 8, 9, 10, 11, 12, 13, 14, 15, 16, 17, 18] [1, 2, 3, 29] <| Mr 0 (pt l9) qhb16 <| Gn [7, 8, 9, 10, 11, 12, 13, 14, 15, 16, 17, 18] [1, 2, 3, 30, 33] <| Mr 1 (pt v8) qhb16 <| Gn [11, 12, 13, 14, 15, 16, 17, 18] [2, 3, 30, 34, 37] <| Mr 2 (pt r6) qhb16 <| Gs [13, 14, 15, 16, 17, 18] [(2, .slice A44 1 cap44), (3, nt 0), (30, pt l9), (34, pt v8), (38, pt r6), (39, .agg (CA.cells (CA.mk 2 1 6 none 0 [])).toArray)] <| Gk0 (kl 10 #[(.tmp 30), (.tmp 34), (.tmp 38), (.tmp 39), (.const (nt 0)), (.const (nt 0))] #[31, 32, 33, 26, 3, 3]) 10 #[pt l9, pt v8, pt r6, .agg (CA.cells (CA.mk 2 1 6 none 0 [])).toArray, nt 0, nt 0] (some 40) (do_spec none_ (CA.mk 2 1 6 none 0 []) r6 gg7 actTs v8 l9 0 0 F45 F48 F51 (acQ []) _ (RepIn.none (fun q h => (inA_none h).elim)) ho46 ho49 ho52 hdis54 hdis55 hdis56 (fun q h => h.elim)) ?_
 rintro _ w75 ⟨A77, cap77, rfl, hA77, ow77, ⟨F78, F81, F84, ho79, ho82, ho85, hfr80, hfr83, hfr86, hdis87, hdis88, hdis89, dA90, dA91, dA92⟩, hk76⟩
 refine ⟨_, rfl, ?_⟩
 have hsz93 := Keep.size hk76
 replace hA44 := hA44.keep hk76 (fun q hq hs => by rcases hs with hs | hs | hs; exact dA57 q hq (by rw [show q = gg7 from hs]; exact (Rfr.atg ho46)); exact dA58 q hq hs; exact dA59 q hq hs)
 replace hK0 := Keep.fresh hK0 hk76 (by intro i hi hs; first | exact hs | (rcases hs with hs | hs | hs; (have u9 : _ = gg7 := hs; have u0 := own62 _ (Rfr.atg ho46); have u1 := lt61 _ (Rfr.atg ho46); omega); (have u0 := own64 i hs; have u1 := lt63 i hs; omega); (have u0 := own66 i hs; have u1 := lt65 i hs; omega)))
 have own95 : ∀ q, F78 q → w.heap.size ≤ q := fun q hq => by rcases hfr80 q hq with h | h; (have h1 := own62 q h; have h2 := lt61 q h; omega); omega
 have lt94 := Rfr.lt ho79
 have dis96 : ∀ q, F78 q → ¬ inA A44 q := fun q h1 h2 => by rcases hfr80 q h1 with h | h; exact (fun q h1 h2 => dA57 q h2 h1) q h h2; (have h4 := ltA44 q h2; omega)
 have own98 : ∀ q, F81 q → w.heap.size ≤ q := fun q hq => by rcases hfr83 q hq with h | h; (have h1 := own64 q h; have h2 := lt63 q h; omega); omega
 have lt97 := VotT.lt ho82
 have dis99 : ∀ q, F81 q → ¬ inA A44 q := fun q h1 h2 => by rcases hfr83 q h1 with h | h; exact (fun q h1 h2 => dA58 q h2 h1) q h h2; (have h4 := ltA44 q h2; omega)
 have own101 : ∀ q, F84 q → w.heap.size ≤ q := fun q hq => by rcases hfr86 q hq with h | h; (have h1 := own66 q h; have h2 := lt65 q h; omega); omega
 have lt100 := Led.lt ho85
 have dis102 : ∀ q, F84 q → ¬ inA A44 q := fun q h1 h2 => by rcases hfr86 q h1 with h | h; exact (fun q h1 h2 => dA59 q h2 h1) q h h2; (have h4 := ltA44 q h2; omega)
 have ltA77 := SlT.lt hA77
 replace ho79 : Rfr F78 w75 r6 gg7 actTs ((doD actTs 0 0 (CA.mk 2 1 6 none 0 []) (acQ [])).2.2).rs := ho79
 replace ho82 : VotT F81 w75 v8 (((doD actTs 0 0 (CA.mk 2 1 6 none 0 []) (acQ [])).2.2).s) := ho82
 replace ho85 : Led F84 w75 l9 ((doD actTs 0 0 (CA.mk 2 1 6 none 0 []) (acQ [])).2.2).xs ((doD actTs 0 0 (CA.mk 2 1 6 none 0 []) (acQ [])).2.2).cs := ho85
 rw [kn2] at ho79
 rw [kn2] at ho82
 rw [kn2] at ho85
 replace ho79 : Rfr F78 w75 r6 gg7 actTs (acQ []).rs := ho79
 replace ho82 : VotT F81 w75 v8 ((acQ []).s) := ho82
 replace ho85 : Led F84 w75 l9 (acQ []).xs (acQ []).cs := ho85
 refine Gp_ [(2, .slice A44 1 cap44), (3, nt 0), (40, .tuple #[.slice A77 (((doD actTs 0 0 (CA.mk 2 1 6 none 0 []) (acQ [])).1).length) cap77, nt ((doD actTs 0 0 (CA.mk 2 1 6 none 0 []) (acQ [])).2.1)])] <| Gq_ (u := .tuple #[.slice A77 (((doD actTs 0 0 (CA.mk 2 1 6 none 0 []) (acQ [])).1).length) cap77, nt ((doD actTs 0 0 (CA.mk 2 1 6 none 0 []) (acQ [])).2.1)]) (v := .tuple #[.slice A77 0 cap77, nt 10]) 40 (by rw [show (doD actTs 0 0 (CA.mk 2 1 6 none 0 []) (acQ [])).1 = ([] : List Evt) from by rw [kn2]]; rw [kn2]; rfl) <| Gn [] [2, 3, 5] <| GI_end <| X_then <| Vr <| On 9 [5, 50, 51] ?_
 obtain ⟨b103, o103, L103, T103, rfl, hat103⟩ := SlT.open_ hA44 (by first | omega | (simp only [List.length_map]; omega) | (simp; done) | (simp; omega))
 have hb103lt := hat103.blk.lt
 have hob104 := ow44 b103 ⟨_, rfl, rfl⟩
 have hob105 := ltA44 b103 ⟨_, rfl, rfl⟩
 have hne106 : ∀ q, F78 q → q ≠ b103 := fun q hq hs => dis96 q hq ⟨_, rfl, hs⟩
 have own107 := fun q hq => And.intro (own95 q hq) (hne106 q hq)
 have hne108 : ∀ q, F81 q → q ≠ b103 := fun q hq hs => dis99 q hq ⟨_, rfl, hs⟩
 have own109 := fun q hq => And.intro (own98 q hq) (hne108 q hq)
 have hne110 : ∀ q, F84 q → q ≠ b103 := fun q hq hs => dis102 q hq ⟨_, rfl, hs⟩
 have own111 := fun q hq => And.intro (own101 q hq) (hne110 q hq)
 exact Oi (b := b103) (o := o103) (len := 1) (cap := cap44) (j := 0) (some 52) 27 (.tmp 51) (.const (Value.int IntKind.i64 0)) 52 3 24 .i64 <| La (o103 + 0 * 3) (Evt.cells (Evt.mk 5 1 7)) 3 hat103.blk (At.elem' hat103 (es_at (rfl : ([Evt.mk 5 1 7] : List Evt)[0]? = some (Evt.mk 5 1 7)))) (At.len hat103 (es_at (rfl : ([Evt.mk 5 1 7] : List Evt)[0]? = some (Evt.mk 5 1 7)))) <| On 12 [5, 50, 53, 54] <| OI_pure (some 55) ((Op.binOp BinOp.eql 52 (Operand.tmp 53) (Operand.tmp 54) 52)) (by kernel_rfl) (pure_eql_same (xs := Evt.cells (Evt.mk 5 1 7)) (by kernel_rfl) (by kernel_rfl) (by kernel_rfl) (by kernel_rfl)) <| Oen [0] <| Rr (.bool true) ⟨rfl, hK0⟩
end Go.Al

namespace Go.Al
open Go Go.RowKit Go.Proofs
theorem spend_E {xs : List Acc} {a n : Int} (ha : isA a = true) (hn : 0 ≤ n ∧ n ≤ 1073741824) : spendsE xs [] a n = if n > (acct xs a).free then 6 else if n > 0 ∧ (acct xs a).free - n < 0 then 7 else 0 := by
  unfold spendsE
  simp_all [lockedL, rowL, lockM]
section
variable {fs : List Int} {to n : Int} {j : Nat}
end
end Go.Al

namespace Go.Al
open Go Go.RowKit Go.Proofs
abbrev lf (n : Int) : CA := .mk 2 1 n none 0 []
def bX (s : Int) : List Acc := [⟨100 - s, 0⟩, ⟨100 + s, 0⟩, ⟨100, 0⟩, ⟨100, 0⟩, ⟨100, 0⟩, ⟨100, 0⟩, ⟨100, 0⟩, ⟨100, 0⟩, ⟨100, 0⟩, ⟨100, 0⟩]
def bQ (s : Int) : RW := ⟨bX s, [], VS.zero, []⟩
theorem and7 (x : Int) : 0 ≤ bAnd x 7 ∧ bAnd x 7 ≤ 7 := bAnd_le x 7 (by decide)
theorem bX_sub (s n : Int) : addF (subF (bX s) 0 n) 1 n = bX (s + n) := by
  show [Acc.mk (100 - s - n) 0, Acc.mk (100 + s + n) 0, ⟨100, 0⟩, ⟨100, 0⟩, ⟨100, 0⟩, ⟨100, 0⟩, ⟨100, 0⟩, ⟨100, 0⟩, ⟨100, 0⟩, ⟨100, 0⟩] = _
  unfold bX
  rw [show 100 - s - n = 100 - (s + n) by omega, show 100 + s + n = 100 + (s + n) by omega]
theorem bX_go {s n : Int} (hs : 0 ≤ s ∧ s + n ≤ 100) (hn : 0 ≤ n ∧ n ≤ 50) (f : Nat) (now : Int) : doC actTs 1 now f (lf n) (bQ s) = ([Evt.mk 3 1 n], 0, bQ (s + n)) := by
  have h1 : spendsE (bX s) [] 0 n = 0 := by
    rw [spend_E rfl (by omega)]
    show (if n > 100 - s then _ else if n > 0 ∧ 100 - s - n < 0 then _ else _) = _
    rw [if_neg (by omega), if_neg (by omega)]
  have h2 : transE (bX s) [] 0 1 n = 0 := by unfold transE; rw [h1]; rfl
  have h3 : transX (bX s) [] 0 1 n = bX (s + n) := by unfold transX; rw [h1, if_pos ⟨rfl, rfl⟩, bX_sub]
  have h4 : doC actTs 1 now f (lf n) (bQ s) = spS actT1 (lf n) (bQ s) := by cases f <;> rfl
  rw [h4]; unfold spS
  show (if n > 50 then _ else _) = _
  rw [if_neg (by omega)]
  show (if transE (bX s) [] 0 1 n ≠ 0 then _ else ([Evt.mk 3 1 n], 0, (⟨transX (bX s) [] 0 1 n, [], VS.zero, []⟩ : RW))) = _
  rw [h2, h3]; rfl
theorem bX_no (u : RW) (f : Nat) (now : Int) : doC actTs 1 now f (lf 51) u = ([], 10, u) := by
  have h4 : doC actTs 1 now f (lf 51) u = spS actT1 (lf 51) u := by cases f <;> rfl
  rw [h4]; exact if_pos (by decide)
def kidB (b i : Nat) (x : Int) : CA := lf (if i = b then 51 else bAnd x 7)
def bk (b : Nat) : Nat → List Int → List CA
  | _, [] => []
  | i, x :: l => kidB b i x :: bk b (i + 1) l
def wn (b : Nat) : Nat → List Int → Int
  | _, [] => 0
  | i, x :: l => (if i < b then bAnd x 7 else 0) + wn b (i + 1) l
theorem bk_len (b : Nat) : ∀ (l : List Int) (i : Nat), (bk b i l).length = l.length
  | [], _ => rfl
  | _ :: l, i => by simp [bk, bk_len b l (i + 1)]
theorem bk_app (b : Nat) : ∀ (l : List Int) (i : Nat) (x : Int), bk b i (l ++ [x]) = bk b i l ++ [kidB b (i + l.length) x]
  | [], _, _ => rfl
  | y :: l, i, x => by
    show kidB b i y :: bk b (i + 1) (l ++ [x]) = _
    rw [bk_app b l (i + 1) x, show i + 1 + l.length = i + (y :: l).length by simp; omega]; rfl
theorem wn_app (b : Nat) : ∀ (l : List Int) (i : Nat) (x : Int), wn b i (l ++ [x]) = wn b i l + (if i + l.length < b then bAnd x 7 else 0)
  | [], i, x => by simp [wn]
  | y :: l, i, x => by
    show (if i < b then bAnd y 7 else 0) + wn b (i + 1) (l ++ [x]) = _
    rw [wn_app b l (i + 1) x, show i + 1 + l.length = i + (y :: l).length by simp; omega]
    show _ = (if i < b then bAnd y 7 else 0) + wn b (i + 1) l + _
    omega
theorem wn_bnd (b : Nat) : ∀ (l : List Int) (i : Nat), 0 ≤ wn b i l ∧ wn b i l ≤ 7 * l.length
  | [], _ => by simp [wn]
  | x :: l, i => by
    have h := wn_bnd b l (i + 1); have h2 := and7 x
    rw [wn, List.length_cons]
    split <;> omega
theorem wn_zero (b : Nat) : ∀ (l : List Int) (i : Nat), b ≤ i → wn b i l = 0
  | [], _, _ => rfl
  | x :: l, i, h => by rw [wn, if_neg (by omega), wn_zero b l (i + 1) (by omega)]; rfl
def bkE (b i n : Nat) : Int := if b < i + n then 10 else 0
def bkN (b i n : Nat) : Nat := if b < i + n then b - i else n
theorem bat_law (b f : Nat) (now : Int) : ∀ (l : List Int) (i : Nat) (s : Int) (es : List Evt), i ≤ b → 0 ≤ s → s + 7 * l.length ≤ 100 →
    (batS (doC actTs 1 now f) (bk b i l) es (bQ s)).2.1 = bkE b i l.length ∧ (batS (doC actTs 1 now f) (bk b i l) es (bQ s)).1.length = es.length + bkN b i l.length ∧ (batS (doC actTs 1 now f) (bk b i l) es (bQ s)).2.2 = bQ (s + wn b i l)
  | [], i, s, es, hi, h0, h1 => by
    refine ⟨?_, ?_, ?_⟩
    · unfold bkE; rw [if_neg (by simp; omega)]; rfl
    · unfold bkN; rw [if_neg (by simp; omega)]; rfl
    · show bQ s = bQ (s + 0); rw [Int.add_zero]
  | x :: l, i, s, es, hi, h0, h1 => by
    have h7 := and7 x
    rw [List.length_cons] at h1
    by_cases he : i = b
    · subst he
      have hd : doC actTs 1 now f (kidB i i x) (bQ s) = ([], 10, bQ s) := by unfold kidB; rw [if_pos rfl]; exact bX_no _ _ _
      have hb : batS (doC actTs 1 now f) (bk i i (x :: l)) es (bQ s) = (es ++ [], 10, bQ s) := by rw [bk, batS, hd]; rfl
      rw [hb]
      refine ⟨?_, ?_, ?_⟩
      · unfold bkE; rw [if_pos (by simp)]
      · unfold bkN; rw [if_pos (by simp)]; simp
      · show bQ s = _; rw [wn_zero i (x :: l) i (Nat.le_refl _), Int.add_zero]
    · have hd : doC actTs 1 now f (kidB b i x) (bQ s) = ([Evt.mk 3 1 (bAnd x 7)], 0, bQ (s + bAnd x 7)) := by unfold kidB; rw [if_neg he]; exact bX_go (by omega) (by omega) _ _
      have hb : batS (doC actTs 1 now f) (bk b i (x :: l)) es (bQ s) = batS (doC actTs 1 now f) (bk b (i + 1) l) (es ++ [Evt.mk 3 1 (bAnd x 7)]) (bQ (s + bAnd x 7)) := by rw [bk, batS, hd]; rfl
      obtain ⟨r1, r2, r3⟩ := bat_law b f now l (i + 1) (s + bAnd x 7) (es ++ [Evt.mk 3 1 (bAnd x 7)]) (by omega) (by omega) (by omega)
      rw [hb]
      refine ⟨r1.trans ?_, r2.trans ?_, r3.trans ?_⟩
      · unfold bkE; rw [List.length_cons, show i + 1 + l.length = i + (l.length + 1) by omega]
      · unfold bkN; rw [List.length_cons, List.length_append, show i + 1 + l.length = i + (l.length + 1) by omega]; simp only [List.length_cons, List.length_nil]; split <;> omega
      · rw [wn, if_pos (by omega), Int.add_assoc]
theorem kid_ok (b i f : Nat) (x : Int) : okCA f (kidB b i x) = true := by
  have h := and7 x
  have h2 : 0 ≤ (if i = b then 51 else bAnd x 7) ∧ (if i = b then 51 else bAnd x 7) ≤ 1073741824 := by split <;> omega
  cases f <;> (show stepC _ _ _ = true; unfold stepC kidB; simp [CA.k, CA.to, CA.n, CA.kids, h2.1, h2.2])
theorem bk_mem (b : Nat) : ∀ (l : List Int) (i : Nat) (x : CA), x ∈ bk b i l → ∃ j y, x = kidB b j y
  | [], _, _, h => by cases h
  | y :: l, i, x, h => by
    rcases List.mem_cons.1 h with rfl | h
    · exact ⟨i, y, rfl⟩
    · exact bk_mem b l (i + 1) x h
theorem bk_rep {D : Nat → Prop} {w : World} {b i : Nat} {l : List Int} : ∀ x ∈ bk b i l, RepIn D w x := fun x hx => by
  obtain ⟨j, y, rfl⟩ := bk_mem b l i x hx
  exact RepIn.none (fun q h => (inA_none h).elim)
theorem batch_law {A : Option Addr} {cap b : Nat} {l : List Int} (h1 : 1 ≤ l.length) (h4 : l.length ≤ 4) : (doD actTs 1 0 (.mk 5 0 0 A cap (bk b 0 l)) (acQ [])).2.1 = bkE b 0 l.length ∧ (doD actTs 1 0 (.mk 5 0 0 A cap (bk b 0 l)) (acQ [])).1.length = bkN b 0 l.length ∧ (acct (doD actTs 1 0 (.mk 5 0 0 A cap (bk b 0 l)) (acQ [])).2.2.xs 1).free = 100 + wn b 0 l := by
  have hk : okCA 3 (.mk 5 0 0 A cap (bk b 0 l)) = true := by
    show stepC true (okCA 2) _ = true
    have ha : (bk b 0 l).all (okCA 2) = true := List.all_eq_true.2 fun x hx => by
      obtain ⟨j, y, rfl⟩ := bk_mem b l 0 x hx
      exact kid_ok b j 2 y
    have hl := bk_len b l 0
    unfold stepC
    simp only [CA.k, CA.to, CA.n, CA.kids, ha, hl]
    simp [h4]; omega
  have hd : doD actTs 1 0 (.mk 5 0 0 A cap (bk b 0 l)) (acQ []) = batS (doC actTs 1 0 2) (bk b 0 l) [] (bQ 0) := by
    unfold doD
    rw [if_neg (by rintro (h | h); cases h; rw [hk] at h; cases h)]; rfl
  obtain ⟨r1, r2, r3⟩ := bat_law b 2 0 l 0 0 [] (by omega) (by omega) (by omega)
  rw [hd]
  refine ⟨r1, r2.trans (by simp), ?_⟩
  rw [r3]
  show 100 + (0 + wn b 0 l) = _
  omega
end Go.Al

namespace Go.Al
open Go Go.RowKit Go.Proofs
theorem take_st {l : List Int} {i : Nat} {x : Int} (h : l[i]? = some x) : l.take (i + 1) = l.take i ++ [x] ∧ (l.take i).length = i := by
  obtain ⟨h1, h2⟩ := List.getElem?_eq_some_iff.1 h
  rw [List.take_succ_eq_append_getElem h1, h2]
  exact ⟨rfl, by rw [List.length_take]; omega⟩
set_option maxHeartbeats 2000000 in
theorem walk_ActBatches (A : Option Addr) (cap : Nat) (ls : List Int) (bad : Int) (w : World) (hA0 : ArgT w 1 intc A cap ls) (hn : ls.length ≤ 9223372036854775807) : Calls Tryz.prog 5 #[.slice A ls.length cap, nt bad] w (rk_ w (.bool true)) := by
 have hA := hA0
 have hK0 : Keep none_ w w := Keep.refl _ _
 have hzhK0 := Keep.size hK0
 refine eV ?_
 refine Vr <| On 1 [0, 1] <| Oe <| V_seq <| Vr <| On 4 [0, 1, 15] ?_
 by_cases hg1 : (ls.length : Int) < 1
 ·
  exact Dt 15 hg1 <| Oen [0, 1, 27] <| Vo <| Vn [4] <| Rt <| Xr (.bool true) ⟨rfl, hK0⟩
 refine Df 15 hg1 <| On 9 [0, 1, 20] ?_
 by_cases hg2 : (ls.length : Int) > 4
 ·
  exact Dt 20 hg2 <| Oen [0, 1, 27] <| Vo <| Vn [4] <| Rt <| Xr (.bool true) ⟨rfl, hK0⟩
 refine Df 20 hg2 <| On 13 [0, 1, 24] ?_
 by_cases hg3 : bad < 0
 ·
  exact Dt 24 hg3 <| Oen [0, 1, 27] <| Vo <| Vn [4] <| Rt <| Xr (.bool true) ⟨rfl, hK0⟩
 refine Df 24 hg3 <| Oen [0, 1, 27] <| Vi (bad > 8) (fun hc4 => ?_) (fun hc4 => ?_)
 ·
  exact Vn [4] <| Rt <| Xr (.bool true) ⟨rfl, hK0⟩
 obtain ⟨b, rfl⟩ : ∃ b : Nat, bad = (b : Int) := ⟨bad.toNat, by omega⟩
 refine Vsk <| Vr <| Kg (begin0 none 0 [] _ (.inl rfl) (by simp)) ?_
 rintro _ w7 ⟨b9, r10, gg11, v12, l13, H14, F15, G16, xv17, yv18, zv19, rfl, hb20, hR21, hV22, hL23, hk8, hge24, oH25, oF26, oG27, dHF28, dHG29, dFG30⟩
 refine ⟨_, rfl, ?_⟩
 have hsz31 := Keep.size hk8
 replace hA := ArgT.keep0 hA hk8
 replace hK0 := hK0.tn hk8
 have hb9lt := hb20.lt
 have own32 : ∀ q, H14 q → w.heap.size ≤ q ∧ q ≠ b9 := fun q hq => by have h1 := oH25 q hq; omega
 have lt33 := Rfr.lt hR21
 have own34 : ∀ q, F15 q → w.heap.size ≤ q ∧ q ≠ b9 := fun q hq => by have h1 := oF26 q hq; omega
 have lt35 := VotT.lt hV22
 have own36 : ∀ q, G16 q → w.heap.size ≤ q ∧ q ≠ b9 := fun q hq => by have h1 := oG27 q hq; omega
 have lt37 := Led.lt hL23
 replace hR21 : Rfr H14 w7 r10 gg11 actTs (acQ []).rs := hR21
 replace hV22 : VotT F15 w7 v12 ((acQ []).s) := hV22
 replace hL23 : Led G16 w7 l13 (acQ []).xs (acQ []).cs := hL23
 refine On 2 [0, 1, 5] <| Oe <| V_seq <| Vn [0, 1, 5, 30] <| Vf <| Vsk <| Vr <| On 1 [0, 1, 5, 31] <| Al 26 (.agg #[nt 0, nt 0, nt 0, .slice none 0 0]) [nt 0, nt 0, nt 0, .slice none 0 0] ?_
 intro b38 w38 e38 hb38 k38 z38
 have hsz39 := Keep.size k38
 replace hb20 := hb20.k0 k38
 replace hA := ArgT.keep0 hA k38
 replace hK0 := hK0.tn k38
 replace hR21 := hR21.keep k38 nk
 replace hV22 := hV22.keep k38 nk
 replace hL23 := hL23.keep k38 nk
 have hb38lt := hb38.lt
 refine OI_set (m := 4) (kd := true) 26 (.tmp 6) (.tmp 31) 0 (.agg #[nt 5, nt 0, nt 0, .slice none 0 0]) [nt 5, nt 0, nt 0, .slice none 0 0] none (by kernel_rfl) (by kernel_rfl) (by kernel_rfl) hb38 (by kernel_rfl) (by kernel_rfl) (by kernel_rfl) (Nat.le_of_ble_eq_true (by kernel_rfl)) (by simp [Value.oneCell']) ?_
 intro w40 hb38_43 hk41 hz42
 replace hb38_43 : Blk w40 b38 [nt 5, nt 0, nt 0, .slice none 0 0] 26 := hb38_43
 have hsz44 := Keep.size hk41
 replace hb20 := hb20.k1 hk41
 replace hA := ArgT.keep hA hk41 hA0 (fun k hk hs => by have hs : k = b38 := hs; omega)
 replace hK0 := Keep.fr hK0 hk41
 replace hR21 := hR21.keep hk41 (fun q hq hs => by have hs : q = b38 := hs; have g0 := own32 q hq; have g1 := lt33 q hq; omega)
 replace hV22 := hV22.keep hk41 (fun q hq hs => by have hs : q = b38 := hs; have g0 := own34 q hq; have g1 := lt35 q hq; omega)
 replace hL23 := hL23.keep hk41 (fun q hq hs => by have hs : q = b38 := hs; have g0 := own36 q hq; have g1 := lt37 q hq; omega)
 refine Oer <| On 1 [0, 1, 5, 6, 7] <| Oe <| V_seq <| Vn [0, 1, 5, 6, 7, 8] <| V_block <| Vp [(0, .slice A ls.length cap), (1, nt (b : Int)), (5, pt b9), (6, pt b38), (7, nt 0), (8, nt 0)] <| V_loop (fun k wI e => ∃ i : Nat, ∃ A2 : Option Addr, ∃ cap2 : Nat, ∃ kl : List CA, ∃ s : Int, (k + i = ls.length) ∧ (i ≤ 4) ∧ (kl = bk b 0 (ls.take i)) ∧ (s = wn b 0 (ls.take i)) ∧ (Blk wI b38 [nt 5, nt 0, nt 0, .slice A2 kl.length cap2] 26) ∧ (SlT wI 4 CA.cells A2 cap2 kl) ∧ (∀ q, inA A2 q → w40.heap.size ≤ q ∧ q ≠ b38) ∧ Keep (only b38) w40 wI ∧ e = [(0, .slice A ls.length cap), (1, nt (b : Int)), (5, pt b9), (6, pt b38), (7, nt s), (8, nt (i : Int))]) ls.length ⟨0, none, 0, [], 0, by omega, by omega, rfl, rfl, hb38_43, SlT.nil _ _ _, fun q h => (inA_none h).elim, Keep.refl _ _, rfl⟩ ?_
 rintro k46 w45 _ ⟨i, A2, cap2, kl, s, hki, hi4, hkl, hs, hbc, hA2, ow2, hk47, rfl⟩
 have hsz48 := Keep.size hk47
 replace hb20 := hb20.k1 hk47
 replace hA := ArgT.keep hA hk47 hA0 (fun k hk hs => by have hs : k = b38 := hs; omega)
 replace hK0 := Keep.fr hK0 hk47
 replace hR21 := hR21.keep hk47 (fun q hq hs => by have hs : q = b38 := hs; have g0 := own32 q hq; have g1 := lt33 q hq; omega)
 replace hV22 := hV22.keep hk47 (fun q hq hs => by have hs : q = b38 := hs; have g0 := own34 q hq; have g1 := lt35 q hq; omega)
 replace hL23 := hL23.keep hk47 (fun q hq hs => by have hs : q = b38 := hs; have g0 := own36 q hq; have g1 := lt37 q hq; omega)
 have hzhk47 := Keep.size hk47
 have hb38lt := hbc.lt
 have lt2 := SlT.lt hA2
 have dis49 : ∀ q, inA A2 q → ¬ H14 q := fun q h1 h2 => by have h3 := ow2 q h1; have h4 := lt33 q h2; omega
 have dis50 : ∀ q, inA A2 q → ¬ F15 q := fun q h1 h2 => by have h3 := ow2 q h1; have h4 := lt35 q h2; omega
 have dis51 : ∀ q, inA A2 q → ¬ G16 q := fun q h1 h2 => by have h3 := ow2 q h1; have h4 := lt37 q h2; omega
 have hsb := wn_bnd b (ls.take i) 0; rw [List.length_take, ← hs] at hsb
 have hkll : kl.length = i := by rw [hkl, bk_len, List.length_take]; omega
 refine V_seq <| Vn [0, 1, 5, 6, 7, 8, 35] <| Vi ((i : Int) < (ls.length : Int)) (fun hc52 => ?_) (fun hc52 => ?_)
 ·
  refine Vsk <| V_seq <| V_block <| Vr <| On 2 [0, 1, 5, 6, 7, 8, 38, 39] ?_
  obtain ⟨b53, o53, L53, rfl, hat53⟩ := ArgT.open_ hA (by first | omega | (simp only [List.length_map]; omega) | (simp; done) | (simp; omega))
  have hb53lt0 := ArgT.lt hA0 (by first | omega | (simp only [List.length_map]; omega) | (simp; done) | (simp; omega))
  have hb53lt := hat53.blk.lt
  refine Oi (b := b53) (o := o53) (len := ls.length) (cap := cap) (j := i) (some 40) 49 (.tmp 38) (.tmp 39) 3 1 8 .i64 ?_
  obtain ⟨x54, hx55⟩ : ∃ x, ls[i]? = some x := ⟨_, List.getElem?_eq_getElem (by first | omega | (simp only [List.length_map]; omega))⟩
  have h7 := and7 x54
  refine OI_cellR 3 (.tmp 40) (o53 + i * 1) (nt x54) (some 41) (by kernel_rfl) (by kernel_rfl) hat53.blk (m := 1) (by kernel_rfl) (AtR.cell0 hat53 (es_at hx55) rfl) <| On 6 [0, 1, 5, 6, 7, 8, 9] <| Oe <| V_seq <| Vn [0, 1, 5, 6, 7, 8, 9, 45] <| Vi ((i : Int) = (b : Int)) (fun hc56 => ?_) (fun hc56 => ?_)
  ·
   refine Vr <| On 1 [0, 1, 5, 6, 7, 8, 46] <| Lr 3 (.slice A2 kl.length cap2) hbc <| On 3 [0, 1, 5, 6, 7, 8, 47, 48] <| OI_slit (E := 26) (zv := .agg #[nt 0, nt 0, nt 0, .slice none 0 0]) (sz := 4) (by_ := 48) 24 1 #[(0, (Operand.tmp 48))] [.agg (CA.cells (CA.mk 2 1 51 none 0 [])).toArray] (CA.cells (CA.mk 2 1 51 none 0 [])) (some 49) (by kernel_rfl) (by kernel_rfl) (by kernel_rfl) (by omega) rfl (by omega) (by intro v hv; obtain rfl := List.mem_singleton.1 hv; show (CA.cells (CA.mk 2 1 51 none 0 [])).toArray.size = 4; simp [CA.len]) (by kernel_rfl) (by show (CA.cells (CA.mk 2 1 51 none 0 [])).toArray.toList ++ [] = _; simp) ?_
   intro b57 w57 e57 hb57 k57 z57
   have hsz58 := Keep.size k57
   replace hbc := hbc.k0 k57
   replace hA2 := hA2.keep0 k57
   replace hk47 := hk47.tn k57
   have hb57lt := hb57.lt
   refine OI_append (t := 24) (at2 := 24) (E := 26) (E2 := 26) (sz := 4) (by_ := 48) (zv := .agg #[nt 0, nt 0, nt 0, .slice none 0 0]) (m := kl.length) (k := 1) (.tmp 47) (.tmp 49) (.slice A2 kl.length cap2) (sl_ b57 0 1 1) (some 50) (by kernel_rfl) (by kernel_rfl) (by kernel_rfl) (by kernel_rfl) (by kernel_rfl) (by kernel_rfl) (by kernel_rfl) (SlT.slr hA2) (slr_one hb57 (CA.len (CA.mk 2 1 51 none 0 []))) (CA.one (CA.mk 2 1 51 none 0 [])) (by first | omega | (simp only [List.length_nil]; omega)) (by omega) (by first | omega | (simp only [List.length_nil]; omega)) (by omega) ?_
   intro vv9 w59 hap
   obtain ⟨A59, cap59, rfl, hA59, hk59, own59x⟩ := app_one (f := CA.cells) (xs := kl) (x := (CA.mk 2 1 51 none 0 [])) (A := A2) (cap := cap2) hap (fun x _ => CA.len x) (CA.len _)
   have own59 : ∀ q, inA A59 q → w40.heap.size ≤ q ∧ q ≠ b38 := fun q hq => by rcases own59x q hq with h | h; exact ow2 q h; (show w40.heap.size ≤ q ∧ q ≠ b38; omega)
   have hsz60 := Keep.size hk59
   replace hbc := hbc.keep hk59 (fun hs => by have h1 := ow2 _ hs; have h2 := lt2 _ hs; omega)
   replace hk47 := Keep.fresh hk47 hk59 (by intro i hi hs; first | exact hs | (exfalso; have h1 := ow2 i hs; have h2 := lt2 i hs; omega) | (have h1 := ow2 i hs; have h2 := lt2 i hs; show _ ∨ _; omega))
   have lt59 := SlT.lt hA59
   refine On 6 [0, 1, 5, 6, 7, 8, 50, 51] <| St_ 3 (.slice A59 ((kl ++ [CA.mk 2 1 51 none 0 []]).length) cap59) hbc ?_
   intro w61 hb38_64 hk62 hz63
   replace hb38_64 : Blk w61 b38 [nt 5, nt 0, nt 0, .slice A59 ((kl ++ [CA.mk 2 1 51 none 0 []]).length) cap59] 26 := hb38_64
   have hsz65 := Keep.size hk62
   replace hA59 := hA59.keep hk62 (fun q hq hs => by have hs : q = b38 := hs; have g0 := own59 q hq; have g1 := lt59 q hq; omega)
   replace hk47 := Keep.fr hk47 hk62
   refine Oe <| V_exit <| X_exit_then <| X_exit_here <| X_then <| V_region ?_
   have hw66 : IntKind.i64.wrap ((i : Int) + 1) = ((i + 1 : Nat) : Int) := (wrap64_id (by omega) (by omega)).trans (by omega)
   refine On 2 [0, 1, 5, 6, 7, 37] <| Oq (u := nt (IntKind.i64.wrap ((i : Int) + 1))) (v := nt ((i + 1 : Nat) : Int)) 37 (by rw [hw66]) <| Os 3 [(0, sl_ b53 o53 ls.length cap), (1, nt (b : Int)), (5, pt b9), (6, pt b38), (7, nt s), (8, nt ((i + 1 : Nat) : Int))] <| OI_end rfl ?_
   obtain ⟨hts, htl⟩ := take_st hx55
   exact V_again (k46 - 1) (by omega) [(0, sl_ b53 o53 ls.length cap), (1, nt (b : Int)), (5, pt b9), (6, pt b38), (7, nt s), (8, nt ((i + 1 : Nat) : Int))] rfl ⟨i + 1, A59, cap59, kl ++ [CA.mk 2 1 51 none 0 []], s, by omega, by omega, by rw [hts, bk_app, ← hkl, htl, Nat.zero_add]; unfold kidB; first | rw [if_pos (by omega)] | rw [if_neg (by omega)], by rw [hts, wn_app, ← hs, htl, Nat.zero_add]; first | rw [if_pos (by omega)] | rw [if_neg (by omega), Int.add_zero], hb38_64, hA59, own59, hk47, rfl⟩
  refine Vsk <| Vr <| On 1 [0, 1, 5, 6, 7, 8, 9, 52] <| Lr 3 (.slice A2 kl.length cap2) hbc <| On 4 [0, 1, 5, 6, 7, 8, 9, 53, 55] <| OI_slit (E := 26) (zv := .agg #[nt 0, nt 0, nt 0, .slice none 0 0]) (sz := 4) (by_ := 48) 24 1 #[(0, (Operand.tmp 55))] [.agg (CA.cells (CA.mk 2 1 (bAnd x54 7) none 0 [])).toArray] (CA.cells (CA.mk 2 1 (bAnd x54 7) none 0 [])) (some 56) (by kernel_rfl) (by kernel_rfl) (by kernel_rfl) (by omega) rfl (by omega) (by intro v hv; obtain rfl := List.mem_singleton.1 hv; show (CA.cells (CA.mk 2 1 (bAnd x54 7) none 0 [])).toArray.size = 4; simp [CA.len]) (by kernel_rfl) (by show (CA.cells (CA.mk 2 1 (bAnd x54 7) none 0 [])).toArray.toList ++ [] = _; simp) ?_
  intro b67 w67 e67 hb67 k67 z67
  have hsz68 := Keep.size k67
  replace hbc := hbc.k0 k67
  replace hA2 := hA2.keep0 k67
  replace hk47 := hk47.tn k67
  have hb67lt := hb67.lt
  refine OI_append (t := 24) (at2 := 24) (E := 26) (E2 := 26) (sz := 4) (by_ := 48) (zv := .agg #[nt 0, nt 0, nt 0, .slice none 0 0]) (m := kl.length) (k := 1) (.tmp 53) (.tmp 56) (.slice A2 kl.length cap2) (sl_ b67 0 1 1) (some 57) (by kernel_rfl) (by kernel_rfl) (by kernel_rfl) (by kernel_rfl) (by kernel_rfl) (by kernel_rfl) (by kernel_rfl) (SlT.slr hA2) (slr_one hb67 (CA.len (CA.mk 2 1 (bAnd x54 7) none 0 []))) (CA.one (CA.mk 2 1 (bAnd x54 7) none 0 [])) (by first | omega | (simp only [List.length_nil]; omega)) (by omega) (by first | omega | (simp only [List.length_nil]; omega)) (by omega) ?_
  intro vv9 w69 hap
  obtain ⟨A69, cap69, rfl, hA69, hk69, own69x⟩ := app_one (f := CA.cells) (xs := kl) (x := (CA.mk 2 1 (bAnd x54 7) none 0 [])) (A := A2) (cap := cap2) hap (fun x _ => CA.len x) (CA.len _)
  have own69 : ∀ q, inA A69 q → w40.heap.size ≤ q ∧ q ≠ b38 := fun q hq => by rcases own69x q hq with h | h; exact ow2 q h; (show w40.heap.size ≤ q ∧ q ≠ b38; omega)
  have hsz70 := Keep.size hk69
  replace hbc := hbc.keep hk69 (fun hs => by have h1 := ow2 _ hs; have h2 := lt2 _ hs; omega)
  replace hk47 := Keep.fresh hk47 hk69 (by intro i hi hs; first | exact hs | (exfalso; have h1 := ow2 i hs; have h2 := lt2 i hs; omega) | (have h1 := ow2 i hs; have h2 := lt2 i hs; show _ ∨ _; omega))
  have lt69 := SlT.lt hA69
  refine On 7 [0, 1, 5, 6, 7, 8, 9, 57, 58] <| St_ 3 (.slice A69 ((kl ++ [CA.mk 2 1 (bAnd x54 7) none 0 []]).length) cap69) hbc ?_
  intro w71 hb38_74 hk72 hz73
  replace hb38_74 : Blk w71 b38 [nt 5, nt 0, nt 0, .slice A69 ((kl ++ [CA.mk 2 1 (bAnd x54 7) none 0 []]).length) cap69] 26 := hb38_74
  have hsz75 := Keep.size hk72
  replace hA69 := hA69.keep hk72 (fun q hq hs => by have hs : q = b38 := hs; have g0 := own69 q hq; have g1 := lt69 q hq; omega)
  replace hk47 := Keep.fr hk47 hk72
  refine Oer <| Oen [0, 1, 5, 6, 7, 8, 9, 61] <| Vi ((i : Int) < (b : Int)) (fun hc76 => ?_) (fun hc76 => ?_)
  ·
   refine V_region ?_
   have hw77 : IntKind.i64.wrap (s + (bAnd x54 7)) = s + (bAnd x54 7) := (wrap64_id (by omega) (by omega)).trans (by omega)
   refine On 3 [0, 1, 5, 6, 8, 64] <| Oq (u := nt (IntKind.i64.wrap (s + (bAnd x54 7)))) (v := nt (s + (bAnd x54 7))) 64 (by rw [hw77]) <| On 4 [0, 1, 5, 6, 7, 8] <| OI_end rfl <| X_block <| X_then <| V_region ?_
   have hw78 : IntKind.i64.wrap ((i : Int) + 1) = ((i + 1 : Nat) : Int) := (wrap64_id (by omega) (by omega)).trans (by omega)
   refine On 2 [0, 1, 5, 6, 7, 37] <| Oq (u := nt (IntKind.i64.wrap ((i : Int) + 1))) (v := nt ((i + 1 : Nat) : Int)) 37 (by rw [hw78]) <| Os 3 [(0, sl_ b53 o53 ls.length cap), (1, nt (b : Int)), (5, pt b9), (6, pt b38), (7, nt (s + (bAnd x54 7))), (8, nt ((i + 1 : Nat) : Int))] <| OI_end rfl ?_
   obtain ⟨hts, htl⟩ := take_st hx55
   exact V_again (k46 - 1) (by omega) [(0, sl_ b53 o53 ls.length cap), (1, nt (b : Int)), (5, pt b9), (6, pt b38), (7, nt (s + (bAnd x54 7))), (8, nt ((i + 1 : Nat) : Int))] rfl ⟨i + 1, A69, cap69, kl ++ [CA.mk 2 1 (bAnd x54 7) none 0 []], s + (bAnd x54 7), by omega, by omega, by rw [hts, bk_app, ← hkl, htl, Nat.zero_add]; unfold kidB; first | rw [if_pos (by omega)] | rw [if_neg (by omega)], by rw [hts, wn_app, ← hs, htl, Nat.zero_add]; first | rw [if_pos (by omega)] | rw [if_neg (by omega), Int.add_zero], hb38_74, hA69, own69, hk47, rfl⟩
  refine V_skip <| X_block <| X_then <| V_region ?_
  have hw79 : IntKind.i64.wrap ((i : Int) + 1) = ((i + 1 : Nat) : Int) := (wrap64_id (by omega) (by omega)).trans (by omega)
  refine On 2 [0, 1, 5, 6, 7, 37] <| Oq (u := nt (IntKind.i64.wrap ((i : Int) + 1))) (v := nt ((i + 1 : Nat) : Int)) 37 (by rw [hw79]) <| Os 3 [(0, sl_ b53 o53 ls.length cap), (1, nt (b : Int)), (5, pt b9), (6, pt b38), (7, nt s), (8, nt ((i + 1 : Nat) : Int))] <| OI_end rfl ?_
  obtain ⟨hts, htl⟩ := take_st hx55
  exact V_again (k46 - 1) (by omega) [(0, sl_ b53 o53 ls.length cap), (1, nt (b : Int)), (5, pt b9), (6, pt b38), (7, nt s), (8, nt ((i + 1 : Nat) : Int))] rfl ⟨i + 1, A69, cap69, kl ++ [CA.mk 2 1 (bAnd x54 7) none 0 []], s, by omega, by omega, by rw [hts, bk_app, ← hkl, htl, Nat.zero_add]; unfold kidB; first | rw [if_pos (by omega)] | rw [if_neg (by omega)], by rw [hts, wn_app, ← hs, htl, Nat.zero_add]; first | rw [if_pos (by omega)] | rw [if_neg (by omega), Int.add_zero], hb38_74, hA69, own69, hk47, rfl⟩
 have hie : i = ls.length := by omega
 rw [hie, List.take_length] at hkl hs
 have hlaw := batch_law (A := A2) (cap := cap2) (b := b) (l := ls) (by omega) (by omega); rw [← hkl, ← hs] at hlaw
 refine V_exit <| X_exit_then <| X_exit_then <| X_exit_here <| X_then <| V_seq <| V_draws (acts [13]) none_ [[0, 1, 2, 3, 4, 5, 6, 7, 8, 9, 10, 11, 12, 13, 14, 15, 16, 17, 18]] (by kernel_rfl) (by repeat first | exact (by first | exact sure_body (by rintro _ _ ⟨_, _, h, _⟩; exact ⟨_, h⟩) | exact sure_body (by rintro _ _ ⟨_, _, _, _, _, _, _, _, _, _, _, h, _⟩; exact ⟨_, h⟩) | exact sure_body (by rintro _ _ ⟨h, _⟩; exact ⟨_, h⟩)) | refine sure_then ?_ | refine sure_block ?_ | refine sure_join ?_) (by kernel_rfl) ?_
 intro w81 hk80 he82 L hL83
 have hsz84 := Keep.size hk80
 replace hb20 := hb20.k0 hk80
 replace hbc := hbc.k0 hk80
 replace hA2 := hA2.keep0 hk80
 replace hK0 := hK0.tn hk80
 replace hR21 := hR21.keep hk80 nk
 replace hV22 := hV22.keep hk80 nk
 replace hL23 := hL23.keep hk80 nk
 have qhb20 := hb20
 have qhbc := hbc
 have K85 : Keep none_ w81 w81 := Keep.refl _ _
 obtain rfl := List.mem_singleton.1 hL83
 refine Gn [3, 4, 5, 6, 7, 8, 9, 10, 11, 12, 13, 14, 15, 16, 17, 18] [0, 1, 5, 6, 7, 68] <| Mr 0 (pt l13) qhb20 <| Gn [7, 8, 9, 10, 11, 12, 13, 14, 15, 16, 17, 18] [0, 1, 5, 6, 7, 69, 72] <| Mr 1 (pt v12) qhb20 <| Gn [11, 12, 13, 14, 15, 16, 17, 18] [0, 1, 5, 6, 7, 69, 73, 76] <| Mr 2 (pt r10) qhb20 <| Ma 0 [nt 5, nt 0, nt 0, .slice A2 kl.length cap2] 4 qhbc id rfl rfl <| Jg (do_spec (inA A2) (CA.mk 5 0 0 A2 cap2 kl) r10 gg11 actTs v12 l13 1 0 H14 F15 G16 (acQ []) _ (RepIn.mk (c := (CA.mk 5 0 0 A2 cap2 kl)) (SlT.arg hA2) (fun q h => h) (by rw [show CA.kids (CA.mk 5 0 0 A2 cap2 kl) = bk b 0 ls from hkl]; exact bk_rep)) hR21 hV22 hL23 dHF28 dHG29 dFG30 (fun q h => ⟨SlT.lt hA2 q h, dis49 q h, dis50 q h, dis51 q h⟩)) ?_
 rintro _ w88 ⟨A90, cap90, rfl, hA90, ow90, ⟨F91, F94, F97, ho92, ho95, ho98, hfr93, hfr96, hfr99, hdis100, hdis101, hdis102, dA103, dA104, dA105⟩, hk89⟩
 refine ⟨_, rfl, ?_⟩
 have hsz106 := Keep.size hk89
 replace hb20 := hb20.keep hk89 (fun hs => by rcases hs with hs | hs | hs; (have u9 : _ = gg11 := hs; have u0 := own32 _ (Rfr.atg hR21); have u1 := lt33 _ (Rfr.atg hR21); omega); (have u0 := own34 _ hs; have u1 := lt35 _ hs; omega); (have u0 := own36 _ hs; have u1 := lt37 _ hs; omega))
 replace hK0 := Keep.fresh hK0 hk89 (by intro i hi hs; first | exact hs | (rcases hs with hs | hs | hs; (have u9 : _ = gg11 := hs; have u0 := own32 _ (Rfr.atg hR21); have u1 := lt33 _ (Rfr.atg hR21); omega); (have u0 := own34 i hs; have u1 := lt35 i hs; omega); (have u0 := own36 i hs; have u1 := lt37 i hs; omega)))
 have own108 : ∀ q, F91 q → w.heap.size ≤ q ∧ q ≠ b9 := fun q hq => by rcases hfr93 q hq with h | h; (have h1 := own32 q h; have h2 := lt33 q h; omega); omega
 have lt107 := Rfr.lt ho92
 have dis109 : ∀ q, F91 q → ¬ inA A2 q := fun q h1 h2 => by rcases hfr93 q h1 with h | h; exact (fun q h1 h2 => dis49 q h2 h1) q h h2; (have h4 := lt2 q h2; omega)
 have own111 : ∀ q, F94 q → w.heap.size ≤ q ∧ q ≠ b9 := fun q hq => by rcases hfr96 q hq with h | h; (have h1 := own34 q h; have h2 := lt35 q h; omega); omega
 have lt110 := VotT.lt ho95
 have dis112 : ∀ q, F94 q → ¬ inA A2 q := fun q h1 h2 => by rcases hfr96 q h1 with h | h; exact (fun q h1 h2 => dis50 q h2 h1) q h h2; (have h4 := lt2 q h2; omega)
 have own114 : ∀ q, F97 q → w.heap.size ≤ q ∧ q ≠ b9 := fun q hq => by rcases hfr99 q hq with h | h; (have h1 := own36 q h; have h2 := lt37 q h; omega); omega
 have lt113 := Led.lt ho98
 have dis115 : ∀ q, F97 q → ¬ inA A2 q := fun q h1 h2 => by rcases hfr99 q h1 with h | h; exact (fun q h1 h2 => dis51 q h2 h1) q h h2; (have h4 := lt2 q h2; omega)
 have ltA90 := SlT.lt hA90
 replace ho92 : Rfr F91 w88 r10 gg11 actTs ((doD actTs 1 0 (CA.mk 5 0 0 A2 cap2 kl) (acQ [])).2.2).rs := ho92
 replace ho95 : VotT F94 w88 v12 (((doD actTs 1 0 (CA.mk 5 0 0 A2 cap2 kl) (acQ [])).2.2).s) := ho95
 replace ho98 : Led F97 w88 l13 ((doD actTs 1 0 (CA.mk 5 0 0 A2 cap2 kl) (acQ [])).2.2).xs ((doD actTs 1 0 (CA.mk 5 0 0 A2 cap2 kl) (acQ [])).2.2).cs := ho98
 refine Gn [] [0, 1, 5, 7, 10, 11] <| GI_end <| X_then <| V_seq <| Vn [0, 1, 5, 7, 10, 11, 85] <| Vi ((b : Int) < (ls.length : Int)) (fun hc116 => ?_) (fun hc116 => ?_)
 ·
  refine Vr <| On 3 [1, 5, 7, 10, 88] <| Oq (u := .bool (decide ((doD actTs 1 0 (CA.mk 5 0 0 A2 cap2 kl) (acQ [])).2.1 = 10))) (v := .bool true) 88 (by rw [decide_eq_true (show (doD actTs 1 0 (CA.mk 5 0 0 A2 cap2 kl) (acQ [])).2.1 = 10 from by first | (rw [hlaw.1]; unfold bkE; first | exact if_pos (by omega) | exact if_neg (by omega)) | (rw [hlaw.2.1]; unfold bkN; first | (rw [if_pos (by omega)]; omega) | (rw [if_neg (by omega)])) | (rw [hlaw.2.2]))]) <| On 9 [5, 7, 94] <| Oq (u := .bool (decide (((((doD actTs 1 0 (CA.mk 5 0 0 A2 cap2 kl) (acQ [])).1).length : Nat) : Int) = (b : Int)))) (v := .bool true) 94 (by rw [decide_eq_true (show ((((doD actTs 1 0 (CA.mk 5 0 0 A2 cap2 kl) (acQ [])).1).length : Nat) : Int) = (b : Int) from by first | (rw [hlaw.1]; unfold bkE; first | exact if_pos (by omega) | exact if_neg (by omega)) | (rw [hlaw.2.1]; unfold bkN; first | (rw [if_pos (by omega)]; omega) | (rw [if_neg (by omega)])) | (rw [hlaw.2.2]))]) <| On 12 [7, 94, 97] <| Lr 0 (pt l13) hb20 <| Kk (free_spec F97 l13 ((doD actTs 1 0 (CA.mk 5 0 0 A2 cap2 kl) (acQ [])).2.2).xs ((doD actTs 1 0 (CA.mk 5 0 0 A2 cap2 kl) (acQ [])).2.2).cs 1 _ ho98) fun w119 hk120 _ => ?_
  replace hK0 := hK0.tn hk120
  have hw122 : IntKind.i64.wrap (100 + s) = 100 + s := (wrap64_id (by omega) (by omega)).trans (by omega)
  refine On 16 [94, 99, 101] <| Oq (u := nt (IntKind.i64.wrap (100 + s))) (v := nt (100 + s)) 101 (by rw [hw122]) <| On 19 [104] <| Oq (u := .bool (decide ((acct ((doD actTs 1 0 (CA.mk 5 0 0 A2 cap2 kl) (acQ [])).2.2).xs 1).free = 100 + s))) (v := .bool true) 104 (by rw [decide_eq_true (show (acct ((doD actTs 1 0 (CA.mk 5 0 0 A2 cap2 kl) (acQ [])).2.2).xs 1).free = 100 + s from by first | (rw [hlaw.1]; unfold bkE; first | exact if_pos (by omega) | exact if_neg (by omega)) | (rw [hlaw.2.1]; unfold bkN; first | (rw [if_pos (by omega)]; omega) | (rw [if_neg (by omega)])) | (rw [hlaw.2.2]))]) <| Kk (known_spec _) fun w124 hk125 _ => ?_
  replace hK0 := hK0.tn hk125
  exact Oen [4] <| Rt <| Xr (.bool true) ⟨rfl, hK0⟩
 refine Vsk <| Vr <| On 3 [0, 5, 7, 10, 109] <| Oq (u := .bool (decide ((doD actTs 1 0 (CA.mk 5 0 0 A2 cap2 kl) (acQ [])).2.1 = 0))) (v := .bool true) 109 (by rw [decide_eq_true (show (doD actTs 1 0 (CA.mk 5 0 0 A2 cap2 kl) (acQ [])).2.1 = 0 from by first | (rw [hlaw.1]; unfold bkE; first | exact if_pos (by omega) | exact if_neg (by omega)) | (rw [hlaw.2.1]; unfold bkN; first | (rw [if_pos (by omega)]; omega) | (rw [if_neg (by omega)])) | (rw [hlaw.2.2]))]) <| On 10 [5, 7, 116] <| Oq (u := .bool (decide (((((doD actTs 1 0 (CA.mk 5 0 0 A2 cap2 kl) (acQ [])).1).length : Nat) : Int) = (ls.length : Int)))) (v := .bool true) 116 (by rw [decide_eq_true (show ((((doD actTs 1 0 (CA.mk 5 0 0 A2 cap2 kl) (acQ [])).1).length : Nat) : Int) = (ls.length : Int) from by first | (rw [hlaw.1]; unfold bkE; first | exact if_pos (by omega) | exact if_neg (by omega)) | (rw [hlaw.2.1]; unfold bkN; first | (rw [if_pos (by omega)]; omega) | (rw [if_neg (by omega)])) | (rw [hlaw.2.2]))]) <| On 13 [7, 116, 119] <| Lr 0 (pt l13) hb20 <| Kk (free_spec F97 l13 ((doD actTs 1 0 (CA.mk 5 0 0 A2 cap2 kl) (acQ [])).2.2).xs ((doD actTs 1 0 (CA.mk 5 0 0 A2 cap2 kl) (acQ [])).2.2).cs 1 _ ho98) fun w129 hk130 _ => ?_
 replace hK0 := hK0.tn hk130
 have hw132 : IntKind.i64.wrap (100 + s) = 100 + s := (wrap64_id (by omega) (by omega)).trans (by omega)
 refine On 17 [116, 121, 123] <| Oq (u := nt (IntKind.i64.wrap (100 + s))) (v := nt (100 + s)) 123 (by rw [hw132]) <| On 20 [126] <| Oq (u := .bool (decide ((acct ((doD actTs 1 0 (CA.mk 5 0 0 A2 cap2 kl) (acQ [])).2.2).xs 1).free = 100 + s))) (v := .bool true) 126 (by rw [decide_eq_true (show (acct ((doD actTs 1 0 (CA.mk 5 0 0 A2 cap2 kl) (acQ [])).2.2).xs 1).free = 100 + s from by first | (rw [hlaw.1]; unfold bkE; first | exact if_pos (by omega) | exact if_neg (by omega)) | (rw [hlaw.2.1]; unfold bkN; first | (rw [if_pos (by omega)]; omega) | (rw [if_neg (by omega)])) | (rw [hlaw.2.2]))]) <| Kk (known_spec _) fun w134 hk135 _ => ?_
 replace hK0 := hK0.tn hk135
 exact Oen [4] <| Rr (.bool true) ⟨rfl, hK0⟩
theorem lift_int (x : List Value) (h : Flat [.int .i64] x) : ∃ y : Int, intc y = x := by
  match x, h with
  | [], h => exact h.elim
  | [_], h => obtain ⟨⟨n, rfl, _⟩, _⟩ := h; exact ⟨n, rfl⟩
  | _ :: _ :: _, h => exact h.2.elim
theorem over_ActBatches {H : Type} {enc : TypeId × Value → H} {A : Option Addr} {len cap : Nat} {d : DataW H} {ps : List MemPlace} {w : World} (h : DataW.Trod enc Tryz.prog w 0 (fun _ => true) true 49 (.slice A len cap) d ps) (bad : Int) : Calls Tryz.prog 5 #[.slice A len cap, nt bad] w (rk_ w (.bool true)) := by
  obtain ⟨xs, rfl, hA, hl, hc⟩ := read_elems (f := intc) (ks := [.int .i64]) (n := 1) (sz := 1) lift_int Tryz.underlying49 (by kernel_rfl) (by kernel_rfl) rfl (by decide) h
  exact walk_ActBatches A cap xs bad w hA (by unfold maxLen at hc; omega)
end Go.Al
