/-
  Put together out of 7 texts: Walks of the laws of act: a beginning. Walks of the laws of act: a remark is told, too much is refused. A spend, as the law says it. A batch, as the law says it. Walks of the laws of act: a batch. A batch within a batch, as the law says it. Walks of the laws of act: a ba
-/
import Derived.Test.YtcaiibbhnalffaaGreatActNestsB4
set_option maxRecDepth 10000
namespace Go.Al
open Go Go.RowKit Go.Proofs
set_option maxHeartbeats 2000000 in
theorem begin0 (A : Option Addr) (cap : Nat) (fs : List Int) (w : World) (hA0 : ArgT w 1 intc A cap fs) (hn : fs.length ≤ 100000) : Calls Tryz.prog 9 #[.slice A fs.length cap, nt 0] w fun e w' => ∃ b r g v l H F G xv yv zv, e = .returned (pt b) ∧ Blk w' b [pt l, pt v, pt r, .pointer xv, .pointer yv, .pointer zv] 38 ∧ Rfr H w' r g actTs [] ∧ VotT F w' v VS.zero ∧ Led G w' l (frX fs) [] ∧ Keep none_ w w' ∧ w.heap.size ≤ b ∧ (∀ q, H q → w.heap.size ≤ q ∧ q ≠ b) ∧ (∀ q, F q → w.heap.size ≤ q ∧ q ≠ b) ∧ (∀ q, G q → w.heap.size ≤ q ∧ q ≠ b) ∧ (∀ q, H q → ¬ F q) ∧ (∀ q, H q → ¬ G q) ∧ (∀ q, F q → ¬ G q) := by
 have hA := hA0
 have hK0 : Keep none_ w w := Keep.refl _ _
 have hzhK0 := Keep.size hK0
 refine eV ?_
 refine Vr <| On 1 [0, 1] <| Oer <| On 1 [0, 1, 5] <| Oe <| V_seq <| Vn [0, 1, 5, 6] <| V_block <| Vp [(0, .slice A fs.length cap), (1, nt 0), (5, .slice none 0 0), (6, nt 0)] <| V_loop (fun k wI e => ∃ i : Nat, ∃ A2 : Option Addr, ∃ cap2 : Nat, ∃ ms : List Int, (k + i = 10) ∧ (i ≤ 10) ∧ (ms = frL fs i) ∧ (SlT wI 1 intc A2 cap2 ms) ∧ (∀ q, inA A2 q → w.heap.size ≤ q) ∧ Keep none_ w wI ∧ e = [(0, .slice A fs.length cap), (1, nt 0), (5, .slice A2 ms.length cap2), (6, nt (i : Int))]) 10 ⟨0, none, 0, [], by omega, by omega, rfl, SlT.nil _ _ _, fun q h => (inA_none h).elim, Keep.refl _ _, rfl⟩ ?_
 rintro k2 w1 _ ⟨i, A2, cap2, ms, hki, hi10, hms, hA2, ow2, hk3, rfl⟩
 have hsz4 := Keep.size hk3
 replace hA := ArgT.keep0 hA hk3
 replace hK0 := hK0.tn hk3
 have hzhk3 := Keep.size hk3
 have lt2 := SlT.lt hA2
 have hml : ms.length = i := by rw [hms, frL_len]
 refine V_seq <| Vn [0, 1, 5, 6, 18] <| Vi ((i : Int) < 10) (fun hc5 => ?_) (fun hc5 => ?_)
 ·
  refine Vsk <| V_seq <| V_block <| Vr <| On 1 [0, 1, 6, 21] <| OI_slit (E := 3) (zv := nt 0) (sz := 1) (by_ := 8) 49 1 #[(0, (Operand.const (Value.int IntKind.i64 100)))] [nt 100] [nt 100] (some 22) (by kernel_rfl) (by kernel_rfl) (by kernel_rfl) (by omega) rfl (by omega) (by intro v hv; simp only [List.mem_cons, List.not_mem_nil, or_false] at hv; rcases hv with rfl <;> rfl) (by kernel_rfl) rfl ?_
  intro b6 w6 e6 hb6 k6 z6
  have hsz7 := Keep.size k6
  replace hA := ArgT.keep0 hA k6
  replace hA2 := hA2.keep0 k6
  replace hk3 := hk3.tn k6
  have hb6lt := hb6.lt
  refine OI_append (t := 49) (at2 := 49) (E := 3) (E2 := 3) (sz := 1) (by_ := 8) (zv := nt 0) (m := ms.length) (k := 1) (.tmp 21) (.tmp 22) (.slice A2 ms.length cap2) (sl_ b6 0 1 1) (some 23) (by kernel_rfl) (by kernel_rfl) (by kernel_rfl) (by kernel_rfl) (by kernel_rfl) (by kernel_rfl) (by kernel_rfl) (SlT.slr hA2) (slr_one hb6 (intc_len 100)) (intc_one 100) (by first | omega | (simp only [List.length_nil]; omega)) (by omega) (by first | omega | (simp only [List.length_nil]; omega)) (by omega) ?_
  intro vv9 w8 hap
  obtain ⟨A8, cap8, rfl, hA8, hk8, own8x⟩ := app_one (f := intc) (xs := ms) (x := 100) (A := A2) (cap := cap2) hap (fun x _ => intc_len x) (intc_len _)
  have own8 : ∀ q, inA A8 q → w.heap.size ≤ q := fun q hq => by rcases own8x q hq with h | h; exact ow2 q h; (show w.heap.size ≤ q; omega)
  have hsz9 := Keep.size hk8
  replace hA := ArgT.keep hA hk8 hA0 (fun k hk hs => by have h1 := ow2 k hs; have h2 := lt2 k hs; omega)
  replace hk3 := Keep.fresh hk3 hk8 (by intro i hi hs; first | exact hs | (exfalso; have h1 := ow2 i hs; have h2 := lt2 i hs; omega) | (have h1 := ow2 i hs; have h2 := lt2 i hs; show _ ∨ _; omega))
  have lt8 := SlT.lt hA8
  refine On 4 [0, 1, 5, 6] <| Oer <| Oen [0, 1, 5, 6, 27] <| Vi ((i : Int) < (fs.length : Int)) (fun hc10 => ?_) (fun hc10 => ?_)
  ·
   have hapl : (ms ++ [100]).length = i + 1 := by rw [List.length_append, hml]; rfl
   refine V_region <| On 4 [0, 1, 5, 6, 28, 29, 30, 31] ?_
   obtain ⟨b11, o11, L11, rfl, hat11⟩ := ArgT.open_ hA (by first | omega | (simp only [List.length_map]; omega) | (simp; done) | (simp; omega))
   have hb11lt0 := ArgT.lt hA0 (by first | omega | (simp only [List.length_map]; omega) | (simp; done) | (simp; omega))
   have hb11lt := hat11.blk.lt
   refine Oi (b := b11) (o := o11) (len := fs.length) (cap := cap) (j := i) (some 32) 49 (.tmp 30) (.tmp 31) 3 1 8 .i64 ?_
   obtain ⟨x12, hx13⟩ : ∃ x, fs[i]? = some x := ⟨_, List.getElem?_eq_getElem (by first | omega | (simp only [List.length_map]; omega))⟩
   refine OI_cellR 3 (.tmp 32) (o11 + i * 1) (nt x12) (some 33) (by kernel_rfl) (by kernel_rfl) hat11.blk (m := 1) (by kernel_rfl) (AtR.cell0 hat11 (es_at hx13) rfl) <| On 8 [0, 1, 5, 6, 28, 29, 35] ?_
   obtain ⟨b14, o14, L14, T14, rfl, hat14⟩ := SlT.open_ hA8 (by first | omega | (simp only [List.length_map]; omega) | (simp; done) | (simp; omega))
   have hb14lt := hat14.blk.lt
   have hob15 := own8 b14 ⟨_, rfl, rfl⟩
   have hob16 := lt8 b14 ⟨_, rfl, rfl⟩
   refine Oi (b := b14) (o := o14) (len := (ms ++ [100]).length) (cap := cap8) (j := i) (some 36) 49 (.tmp 28) (.tmp 29) 3 1 8 .i64 ?_
   obtain ⟨x17, hx18⟩ : ∃ x, (ms ++ [100])[i]? = some x := ⟨_, List.getElem?_eq_getElem (by first | omega | (simp only [List.length_map]; omega))⟩
   refine OI_set (m := 1) (kd := false) 3 (.tmp 36) (.tmp 35) (o14 + i * 1) (nt (IntKind.i64.wrap (100 + (bAnd x12 1023)))) [nt (IntKind.i64.wrap (100 + (bAnd x12 1023)))] none (by kernel_rfl) (by kernel_rfl) (by kernel_rfl) (At.blk hat14) (by kernel_rfl) (by kernel_rfl) rfl (by have h1 := At.room hat14; have h2 := At.le hat14; rw [List.length_map] at h2; omega) (by simp [Value.oneCell']) ?_
   intro w19 hn20 hk21 hz22
   have hat23 := At.set (y := (IntKind.i64.wrap (100 + (bAnd x12 1023)) : Int)) (k := 0) hat14 hx18 (by omega) (by simp [intc, over]) hn20
   have hsz24 := Keep.size hk21
   replace hk3 := Keep.fr hk3 hk21
   have hlhx25 : ((ms ++ [100]).set i (IntKind.i64.wrap (100 + (bAnd x12 1023)))).length = (ms ++ [100]).length := List.length_set
   have hx25 : ((ms ++ [100]).set i (IntKind.i64.wrap (100 + (bAnd x12 1023))))[i]? = some (IntKind.i64.wrap (100 + (bAnd x12 1023))) := by rw [List.getElem?_set_self (List.getElem?_eq_some_iff.1 hx18).1]
   refine Op_ [(0, sl_ b11 o11 fs.length cap), (1, nt 0), (5, sl_ b14 o14 ((ms ++ [100]).length) cap8), (6, nt (i : Int))] <| Oq (u := sl_ b14 o14 ((ms ++ [100]).length) cap8) (v := sl_ b14 o14 (((ms ++ [100]).set i (IntKind.i64.wrap (100 + (bAnd x12 1023)))).length) cap8) 5 (by rw [List.length_set]) <| OI_end rfl <| X_block <| X_then <| V_region ?_
   have hw26 : IntKind.i64.wrap ((i : Int) + 1) = ((i + 1 : Nat) : Int) := (wrap64_id (by omega) (by omega)).trans (by omega)
   refine On 2 [0, 1, 5, 20] <| Oq (u := nt (IntKind.i64.wrap ((i : Int) + 1))) (v := nt ((i + 1 : Nat) : Int)) 20 (by rw [hw26]) <| Os 3 [(0, sl_ b11 o11 fs.length cap), (1, nt 0), (5, sl_ b14 o14 (((ms ++ [100]).set i (IntKind.i64.wrap (100 + (bAnd x12 1023)))).length) cap8), (6, nt ((i + 1 : Nat) : Int))] <| OI_end rfl ?_
   exact V_again (k2 - 1) (by omega) [(0, sl_ b11 o11 fs.length cap), (1, nt 0), (5, sl_ b14 o14 (((ms ++ [100]).set i (IntKind.i64.wrap (100 + (bAnd x12 1023)))).length) cap8), (6, nt ((i + 1 : Nat) : Int))] rfl ⟨i + 1, (some ⟨b14, o14, none⟩), cap8, (ms ++ [100]).set i (IntKind.i64.wrap (100 + (bAnd x12 1023))), by omega, by omega, by rw [frL_step, ← hms, frA_some hx13, ← hml]; simp, At.slt hat23, (fun q h => by have h3 := inA_some h; omega), hk3, rfl⟩
  have hapl : (ms ++ [100]).length = i + 1 := by rw [List.length_append, hml]; rfl
  refine V_skip <| X_block <| X_then <| V_region ?_
  have hw27 : IntKind.i64.wrap ((i : Int) + 1) = ((i + 1 : Nat) : Int) := (wrap64_id (by omega) (by omega)).trans (by omega)
  refine On 2 [0, 1, 5, 20] <| Oq (u := nt (IntKind.i64.wrap ((i : Int) + 1))) (v := nt ((i + 1 : Nat) : Int)) 20 (by rw [hw27]) <| Os 3 [(0, .slice A fs.length cap), (1, nt 0), (5, .slice A8 ((ms ++ [100]).length) cap8), (6, nt ((i + 1 : Nat) : Int))] <| OI_end rfl ?_
  exact V_again (k2 - 1) (by omega) [(0, .slice A fs.length cap), (1, nt 0), (5, .slice A8 ((ms ++ [100]).length) cap8), (6, nt ((i + 1 : Nat) : Int))] rfl ⟨i + 1, A8, cap8, ms ++ [100], by omega, by omega, by rw [frL_step, ← hms, frA_none (by omega)], hA8, own8, hk3, rfl⟩
 refine V_exit <| X_exit_then <| X_exit_then <| X_exit_here <| X_then <| Vr <| On 1 [1, 5, 38] ?_
 have hie : i = 10 := by omega
 replace hms : ms = frL fs 10 := by rw [hms, hie]
 refine Kg (new_okA A2 cap2 ms _ (SlT.arg hA2) (by omega) (by rw [hms]; exact frL_ok fs)) ?_
 rintro _ w28 ⟨l30, F31, rfl, ho32, hk29, hge33⟩
 refine ⟨_, rfl, ?_⟩
 have hsz34 := Keep.size hk29
 replace hA2 := hA2.keep0 hk29
 replace hK0 := hK0.tn hk29
 replace ho32 : Led F31 w28 l30 (frX fs) [] := by rw [hms] at ho32; exact ho32
 have own35 : ∀ q, F31 q → w1.heap.size ≤ q := fun q hq => by have h1 := hge33 q hq; omega
 have lt36 := Led.lt ho32
 have dis37 : ∀ q, F31 q → ¬ inA A2 q := fun q h1 h2 => by have h3 := hge33 q h1; have h4 := lt2 q h2; omega
 have hl30lt : l30 < w28.heap.size := Led.lt ho32 _ (Led.at_ ho32)
 have hl30ge := hge33 _ (Led.at_ ho32)
 refine On 7 [1, 5, 7, 8] <| Oer <| On 1 [1, 7, 8, 43] <| Kg (rnew6_weak A2 cap2 ms _ (SlT.arg hA2) (by omega)) ?_
 rintro _ w38 ⟨pv40, n41, rfl, hk39⟩
 refine ⟨_, rfl, ?_⟩
 have hsz42 := Keep.size hk39
 replace hK0 := hK0.tn hk39
 replace ho32 := ho32.keep hk39 nk
 refine On 7 [1, 7, 8, 9] <| Oer <| Kg (tracks_spec _) ?_
 rintro _ w43 ⟨A45, cap45, rfl, hA45, ow45, hk44⟩
 refine ⟨_, rfl, ?_⟩
 have hsz46 := Keep.size hk44
 replace hK0 := hK0.tn hk44
 replace ho32 := ho32.keep hk44 nk
 have lt45 := SlT.lt hA45
 have dis47 : ∀ q, inA A45 q → ¬ F31 q := fun q h1 h2 => by have h3 := ow45 q h1; have h4 := lt36 q h2; omega
 refine Kg (rnw_spec A45 cap45 actTs _ hA45 actTs_ok) ?_
 rintro _ w48 ⟨r50, gg54, H51, rfl, hR52, hk49, hge53⟩
 refine ⟨_, rfl, ?_⟩
 have hsz55 := Keep.size hk49
 replace hK0 := hK0.tn hk49
 replace ho32 := ho32.keep hk49 nk
 have own56 : ∀ q, H51 q → w43.heap.size ≤ q := fun q hq => by have h1 := hge53 q hq; omega
 have lt57 := Rfr.lt hR52
 have dis58 : ∀ q, H51 q → ¬ inA A2 q := fun q h1 h2 => by have h3 := hge53 q h1; have h4 := lt2 q h2; omega
 have dis59 : ∀ q, H51 q → ¬ inA A45 q := fun q h1 h2 => by have h3 := hge53 q h1; have h4 := lt45 q h2; omega
 have dis60 : ∀ q, H51 q → ¬ F31 q := fun q h1 h2 => by have h3 := hge53 q h1; have h4 := lt36 q h2; omega
 have hr50lt : r50 < w48.heap.size := Rfr.lt hR52 _ (Rfr.at_ hR52)
 have hr50ge := hge53 _ (Rfr.at_ hR52)
 refine On 7 [1, 7, 8, 9, 11, 12] <| Oer <| Kg (tracks_spec _) ?_
 rintro _ w61 ⟨A63, cap63, rfl, hA63, ow63, hk62⟩
 refine ⟨_, rfl, ?_⟩
 have hsz64 := Keep.size hk62
 replace hK0 := hK0.tn hk62
 replace ho32 := ho32.keep hk62 nk
 replace hR52 := hR52.keep hk62 nk
 have lt63 := SlT.lt hA63
 have dis65 : ∀ q, inA A63 q → ¬ F31 q := fun q h1 h2 => by have h3 := ow63 q h1; have h4 := lt36 q h2; omega
 have dis66 : ∀ q, inA A63 q → ¬ H51 q := fun q h1 h2 => by have h3 := ow63 q h1; have h4 := lt57 q h2; omega
 refine Kg (rnew12_weak A63 cap63 actTs _ hA63 actTs_ok) ?_
 rintro _ w67 ⟨pv69, rfl, hk68⟩
 refine ⟨_, rfl, ?_⟩
 have hsz70 := Keep.size hk68
 replace hK0 := hK0.tn hk68
 replace ho32 := ho32.keep hk68 nk
 replace hR52 := hR52.keep hk68 nk
 refine On 7 [1, 7, 8, 9, 11, 12, 13] <| Oer <| On 1 [1, 7, 8, 9, 11, 12, 13, 57] <| Kg (new_votT _) ?_
 rintro _ w73 ⟨g75, F76, rfl, ho77, hk74, hge78⟩
 refine ⟨_, rfl, ?_⟩
 have hsz79 := Keep.size hk74
 replace hK0 := hK0.tn hk74
 replace ho32 := ho32.keep hk74 nk
 replace hR52 := hR52.keep hk74 nk
 have own80 : ∀ q, F76 q → w67.heap.size ≤ q := fun q hq => by have h1 := hge78 q hq; omega
 have lt81 := VotT.lt ho77
 have dis82 : ∀ q, F76 q → ¬ inA A2 q := fun q h1 h2 => by have h3 := hge78 q h1; have h4 := lt2 q h2; omega
 have dis83 : ∀ q, F76 q → ¬ inA A45 q := fun q h1 h2 => by have h3 := hge78 q h1; have h4 := lt45 q h2; omega
 have dis84 : ∀ q, F76 q → ¬ inA A63 q := fun q h1 h2 => by have h3 := hge78 q h1; have h4 := lt63 q h2; omega
 have dis85 : ∀ q, F76 q → ¬ F31 q := fun q h1 h2 => by have h3 := hge78 q h1; have h4 := lt36 q h2; omega
 have dis86 : ∀ q, F76 q → ¬ H51 q := fun q h1 h2 => by have h3 := hge78 q h1; have h4 := lt57 q h2; omega
 have hg75lt : g75 < w73.heap.size := VotT.lt ho77 _ (VotT.at_ ho77)
 have hg75ge := hge78 _ (VotT.at_ ho77)
 refine On 4 [1, 7, 8, 11, 12, 13, 57, 58, 59, 60] <| Kg (rnew11_weak _) ?_
 rintro _ w87 ⟨pv89, rfl, hk88⟩
 refine ⟨_, rfl, ?_⟩
 have hsz90 := Keep.size hk88
 replace hK0 := hK0.tn hk88
 replace ho32 := ho32.keep hk88 nk
 replace hR52 := hR52.keep hk88 nk
 replace ho77 := ho77.keep hk88 nk
 refine On 7 [1, 7, 8, 11, 12, 63] <| Bx 38 [pt l30, pt g75, pt r50, .pointer pv40, .pointer pv89, .pointer pv69] ?_
 intro b91 w91 e91 hb91 k91 z91
 have hsz92 := Keep.size k91
 replace hK0 := hK0.tn k91
 replace ho32 := ho32.keep k91 nk
 replace hR52 := hR52.keep k91 nk
 replace ho77 := ho77.keep k91 nk
 have hb91lt := hb91.lt
 refine On 9 [1, 7, 8, 11, 12, 15] <| Oe <| V_seq <| Vr <| On 18 [1, 15, 79, 82] <| Lr 1 (pt g75) hb91 <| Oen [1, 15, 85] <| Vf <| Vsk <| V_seq <| Vn [1, 15, 16] <| V_block <| Vp [(1, nt 0), (15, pt b91), (16, nt 0)] <| V_loop (fun k wI e => (k = 0) ∧ Keep none_ w91 wI ∧ e = [(1, nt 0), (15, pt b91), (16, nt 0)]) 0 ⟨rfl, Keep.refl _ _, rfl⟩ ?_
 rintro k94 w93 _ ⟨hk9, hk95, rfl⟩
 have hsz96 := Keep.size hk95
 replace hb91 := hb91.k0 hk95
 replace hK0 := hK0.tn hk95
 replace ho32 := ho32.keep hk95 nk
 replace hR52 := hR52.keep hk95 nk
 replace ho77 := ho77.keep hk95 nk
 have hzhk95 := Keep.size hk95
 refine V_seq <| Vn [1, 15, 16, 90, 91, 92] <| Vf <| V_exit <| X_exit_then <| X_exit_then <| X_exit_here <| X_then <| Vs [(4, pt b91)] <| V_ret ?_
 exact X_return _ rfl ⟨b91, r50, gg54, g75, l30, H51, F76, F31, pv40, pv89, pv69, rfl, hb91, hR52, ho77, ho32, hK0, by omega, (fun q hq => ⟨by have h1 := own56 q hq; omega, by have h1 := lt57 q hq; omega⟩), (fun q hq => ⟨by have h1 := own80 q hq; omega, by have h1 := lt81 q hq; omega⟩), (fun q hq => ⟨by have h1 := own35 q hq; omega, by have h1 := lt36 q hq; omega⟩), (fun q h1 h2 => dis86 q h2 h1), dis60, dis85⟩
end Go.Al

namespace Go.Al
open Go Go.RowKit Go.Proofs
theorem kn1 : doD actTs 1 0 (CA.mk 1 0 7 none 0 []) (acQ []) = ([Evt.mk 5 1 7], 0, acQ []) := by kernel_rfl
theorem kn2 : doD actTs 0 0 (CA.mk 2 1 6 none 0 []) (acQ []) = ([], 10, acQ []) := by kernel_rfl
set_option maxHeartbeats 2000000 in
theorem known_spec (w : World) : Calls Tryz.prog 12 #[] w (rk_ w (.bool true)) := by
 have hK0 : Keep none_ w w := Keep.refl _ _
 have hzhK0 := Keep.size hK0
 refine eV ?_
 refine Vr <| On 1 [] <| Oer <| Kg (begin0 none 0 [] _ (.inl rfl) (by simp)) ?_
 rintro _ w3 ⟨b5, r6, gg7, v8, l9, H10, F11, G12, xv13, yv14, zv15, rfl, hb16, hR17, hV18, hL19, hk4, hge20, oH21, oF22, oG23, dHF24, dHG25, dFG26⟩
 refine ⟨_, rfl, ?_⟩
 have hsz27 := Keep.size hk4
 replace hK0 := hK0.tn hk4
 have hb5lt := hb16.lt
 have own28 : ∀ q, H10 q → w.heap.size ≤ q ∧ q ≠ b5 := fun q hq => by have h1 := oH21 q hq; omega
 have lt29 := Rfr.lt hR17
 have own30 : ∀ q, F11 q → w.heap.size ≤ q ∧ q ≠ b5 := fun q hq => by have h1 := oF22 q hq; omega
 have lt31 := VotT.lt hV18
 have own32 : ∀ q, G12 q → w.heap.size ≤ q ∧ q ≠ b5 := fun q hq => by have h1 := oG23 q hq; omega
 have lt33 := Led.lt hL19
 replace hR17 : Rfr H10 w3 r6 gg7 actTs (acQ []).rs := hR17
 replace hV18 : VotT F11 w3 v8 ((acQ []).s) := hV18
 replace hL19 : Led G12 w3 l9 (acQ []).xs (acQ []).cs := hL19
 refine On 2 [1] <| Oe <| V_seq <| Vn [1, 8] <| Vf <| Vsk <| V_seq <| V_draws (acts [13]) none_ [[0, 1, 2, 3, 4, 5, 6, 7, 8, 9, 10, 11, 12, 13, 14, 15, 16, 17, 18]] (by kernel_rfl) (by repeat first | exact (by first | exact sure_body (by rintro _ _ ⟨_, _, h, _⟩; exact ⟨_, h⟩) | exact sure_body (by rintro _ _ ⟨_, _, _, _, _, _, _, _, _, _, _, h, _⟩; exact ⟨_, h⟩) | exact sure_body (by rintro _ _ ⟨h, _⟩; exact ⟨_, h⟩)) | refine sure_then ?_ | refine sure_block ?_ | refine sure_join ?_) (by kernel_rfl) ?_
 intro w35 hk34 he36 L hL37
 have hsz38 := Keep.size hk34
 replace hb16 := hb16.k0 hk34
 replace hK0 := hK0.tn hk34
 replace hR17 := hR17.keep hk34 nk
 replace hV18 := hV18.keep hk34 nk
 replace hL19 := hL19.keep hk34 nk
 have qhb16 := hb16
 have K39 : Keep none_ w35 w35 := Keep.refl _ _
 obtain rfl := List.mem_singleton.1 hL37
 refine Gn [3, 4, 5, 6, 7, 8, 9, 10, 11, 12, 13, 14, 15, 16, 17, 18] [1, 12] <| Mr 0 (pt l9) qhb16 <| Gn [7, 8, 9, 10, 11, 12, 13, 14, 15, 16, 17, 18] [1, 13, 16] <| Mr 1 (pt v8) qhb16 <| Gn [11, 12, 13, 14, 15, 16, 17, 18] [1, 13, 17, 20] <| Mr 2 (pt r6) qhb16 <| Gs [13, 14, 15, 16, 17, 18] [(1, pt b5), (13, pt l9), (17, pt v8), (21, pt r6), (22, .agg (CA.cells (CA.mk 1 0 7 none 0 [])).toArray)] <| Gk0 (kl 10 #[(.tmp 13), (.tmp 17), (.tmp 21), (.tmp 22), (.const (nt 1)), (.const (nt 0))] #[31, 32, 33, 26, 3, 3]) 10 #[pt l9, pt v8, pt r6, .agg (CA.cells (CA.mk 1 0 7 none 0 [])).toArray, nt 1, nt 0] (some 23) (do_spec none_ (CA.mk 1 0 7 none 0 []) r6 gg7 actTs v8 l9 1 0 H10 F11 G12 (acQ []) _ (RepIn.none (fun q h => (inA_none h).elim)) hR17 hV18 hL19 dHF24 dHG25 dFG26 (fun q h => h.elim)) ?_
 rintro _ w42 ⟨A44, cap44, rfl, hA44, ow44, ⟨F45, F48, F51, ho46, ho49, ho52, hfr47, hfr50, hfr53, hdis54, hdis55, hdis56, dA57, dA58, dA59⟩, hk43⟩
 refine ⟨_, rfl, ?_⟩
 have hsz60 := Keep.size hk43
 replace hb16 := hb16.keep hk43 (fun hs => by rcases hs with hs | hs | hs; (have u9 : _ = gg7 := hs; have u0 := own28 _ (Rfr.atg hR17); have u1 := lt29 _ (Rfr.atg hR17); omega); (have u0 := own30 _ hs; have u1 := lt31 _ hs; omega); (have u0 := own32 _ hs; have u1 := lt33 _ hs; omega))
 replace hK0 := Keep.fresh hK0 hk43 (by intro i hi hs; first | exact hs | (rcases hs with hs | hs | hs; (have u9 : _ = gg7 := hs; have u0 := own28 _ (Rfr.atg hR17); have u1 := lt29 _ (Rfr.atg hR17); omega); (have u0 := own30 i hs; have u1 := lt31 i hs; omega); (have u0 := own32 i hs; have u1 := lt33 i hs; omega)))
 have own62 : ∀ q, F45 q → w.heap.size ≤ q ∧ q ≠ b5 := fun q hq => by rcases hfr47 q hq with h | h; (have h1 := own28 q h; have h2 := lt29 q h; omega); omega
 have lt61 := Rfr.lt ho46
 have own64 : ∀ q, F48 q → w.heap.size ≤ q ∧ q ≠ b5 := fun q hq => by rcases hfr50 q hq with h | h; (have h1 := own30 q h; have h2 := lt31 q h; omega); omega
 have lt63 := VotT.lt ho49
 have own66 : ∀ q, F51 q → w.heap.size ≤ q ∧ q ≠ b5 := fun q hq => by rcases hfr53 q hq with h | h; (have h1 := own32 q h; have h2 := lt33 q h; omega); omega
 have lt65 := Led.lt ho52
 have ltA44 := SlT.lt hA44
 replace hA44 := SlT.ofE (xs := (doD actTs 1 0 (CA.mk 1 0 7 none 0 []) (acQ [])).1) hA44 (show _ = [Evt.mk 5 1 7] from by rw [kn1])
 replace ho46 : Rfr F45 w42 r6 gg7 actTs ((doD actTs 1 0 (CA.mk 1 0 7 none 0 []) (acQ [])).2.2).rs := ho46
 replace ho49 : VotT F48 w42 v8 (((doD actTs 1 0 (CA.mk 1 0 7 none 0 []) (acQ [])).2.2).s) := ho49
 replace ho52 : Led F51 w42 l9 ((doD actTs 1 0 (CA.mk 1 0 7 none 0 []) (acQ [])).2.2).xs ((doD actTs 1 0 (CA.mk 1 0 7 none 0 []) (acQ [])).2.2).cs := ho52
 rw [kn1] at ho46
 rw [kn1] at ho49
 rw [kn1] at ho52
 replace ho46 : Rfr F45 w42 r6 gg7 actTs (acQ []).rs := ho46
 replace ho49 : VotT F48 w42 v8 ((acQ []).s) := ho49
 replace ho52 : Led F51 w42 l9 (acQ []).xs (acQ []).cs := ho52
 refine Gp_ [(1, pt b5), (23, .tuple #[.slice A44 (((doD actTs 1 0 (CA.mk 1 0 7 none 0 []) (acQ [])).1).length) cap44, nt ((doD actTs 1 0 (CA.mk 1 0 7 none 0 []) (acQ [])).2.1)])] <| Gq_ (u := .tuple #[.slice A44 (((doD actTs 1 0 (CA.mk 1 0 7 none 0 []) (acQ [])).1).length) cap44, nt ((doD actTs 1 0 (CA.mk 1 0 7 none 0 []) (acQ [])).2.1)]) (v := .tuple #[.slice A44 1 cap44, nt 0]) 23 (by rw [show (doD actTs 1 0 (CA.mk 1 0 7 none 0 []) (acQ [])).1 = [Evt.mk 5 1 7] from by rw [kn1]]; rw [kn1] <;> rfl) <| Gn [] [1, 2, 3] <| GI_end <| X_then <| V_seq <| V_draws (acts [13]) none_ [[0, 1, 2, 3, 4, 5, 6, 7, 8, 9, 10, 11, 12, 13, 14, 15, 16, 17, 18]] (by kernel_rfl) (by repeat first | exact (by first | exact sure_body (by rintro _ _ ⟨_, _, h, _⟩; exact ⟨_, h⟩) | exact sure_body (by rintro _ _ ⟨_, _, _, _, _, _, _, _, _, _, _, h, _⟩; exact ⟨_, h⟩) | exact sure_body (by rintro _ _ ⟨h, _⟩; exact ⟨_, h⟩)) | refine sure_then ?_ | refine sure_block ?_ | refine sure_join ?_) (by kernel_rfl) ?_
 intro w68 hk67 he69 L hL70
 have hsz71 := Keep.size hk67
 replace hb16 := hb16.k0 hk67
 replace hA44 := hA44.keep0 hk67
 replace hK0 := hK0.tn hk67
 replace ho46 := ho46.keep hk67 nk
 replace ho49 := ho49.keep hk67 nk
 replace ho52 := ho52.keep hk67 nk
 have qhb16 := hb16
 have K72 : Keep none_ w68 w68 := Keep.refl _ _
 obtain rfl := List.mem_singleton.1 hL70
 refine Gn [3, 4, 5, 6, 7, 8, 9, 10, 11, 12, 13, 14, 15, 16, 17, 18] [1, 2, 3, 29] <| Mr 0 (pt l9) qhb16 <| Gn [7, 8, 9, 10, 11, 12, 13, 14, 15, 16, 17, 18] [1, 2, 3, 30, 33] <| Mr 1 (pt v8) qhb16 <| Gn [11, 12, 13, 14, 15, 16, 17, 18] [2, 3, 30, 34, 37] <| Mr 2 (pt r6) qhb16 <| Gs [13, 14, 15, 16, 17, 18] [(2, .slice A44 1 cap44), (3, nt 0), (30, pt l9), (34, pt v8), (38, pt r6), (39, .agg (CA.cells (CA.mk 2 1 6 none 0 [])).toArray)] <| Gk0 (kl 10 #[(.tmp 30), (.tmp 34), (.tmp 38), (.tmp 39), (.const (nt 0)), (.const (nt 0))] #[31, 32, 33, 26, 3, 3]) 10 #[pt l9, pt v8, pt r6, .agg (CA.cells (CA.mk 2 1 6 none 0 [])).toArray, nt 0, nt 0] (some 40) (do_spec none_ (CA.mk 2 1 6 none 0 []) r6 gg7 actTs v8 l9 0 0 F45 F48 F51 (acQ []) _ (RepIn.none (fun q h => (inA_none h).elim)) ho46 ho49 ho52 hdis54 hdis55 hdis56 (fun q h => h.elim)) ?_
 rintro _ w75 ⟨A77, cap77, rfl, hA77, ow77, ⟨F78, F81, F84, ho79, ho82, ho85, hfr80, hfr83, hfr86, hdis87, hdis88, hdis89, dA90, dA91, dA92⟩, hk76⟩
 refine ⟨_, rfl, ?_⟩
 have hsz93 := Keep.size hk76
 replace hA44 := hA44.keep hk76 (fun q hq hs => by rcases hs with hs | hs | hs; exact dA57 q hq (by rw [show q = gg7 from hs]; exact (Rfr.atg ho46)); exact dA58 q hq hs; exact dA59 q hq hs)
 replace hK0 := Keep.fresh hK0 hk76 (by intro i hi hs; first | exact hs | (rcases hs with hs | hs | hs; (have u9 : _ = gg7 := hs; have u0 := own62 _ (Rfr.atg ho46); have u1 := lt61 _ (Rfr.atg ho46); omega); (have u0 := own64 i hs; have u1 := lt63 i hs; omega); (have u0 := own66 i hs; have u1 := lt65 i hs; omega)))
 have own95 : ∀ q, F78 q → w.heap.size ≤ q := fun q hq => by rcases hfr80 q hq with h | h; (have h1 := own62 q h; have h2 := lt61 q h; omega); omega
 have lt94 := Rfr.lt ho79
 have dis96 : ∀ q, F78 q → ¬ inA A44 q := fun q h1 h2 => by rcases hfr80 q h1 with h | h; exact (fun q h1 h2 => dA57 q h2 h1) q h h2; (have h4 := ltA44 q h2; omega)
 have own98 : ∀ q, F81 q → w.heap.size ≤ q := fun q hq => by rcases hfr83 q hq with h | h; (have h1 := own64 q h; have h2 := lt63 q h; omega); omega
 have lt97 := VotT.lt ho82
 have dis99 : ∀ q, F81 q → ¬ inA A44 q := fun q h1 h2 => by rcases hfr83 q h1 with h | h; exact (fun q h1 h2 => dA58 q h2 h1) q h h2; (have h4 := ltA44 q h2; omega)
 have own101 : ∀ q, F84 q → w.heap.size ≤ q := fun q hq => by rcases hfr86 q hq with h | h; (have h1 := own66 q h; have h2 := lt65 q h; omega); omega
 have lt100 := Led.lt ho85
 have dis102 : ∀ q, F84 q → ¬ inA A44 q := fun q h1 h2 => by rcases hfr86 q h1 with h | h; exact (fun q h1 h2 => dA59 q h2 h1) q h h2; (have h4 := ltA44 q h2; omega)
 have ltA77 := SlT.lt hA77
 replace ho79 : Rfr F78 w75 r6 gg7 actTs ((doD actTs 0 0 (CA.mk 2 1 6 none 0 []) (acQ [])).2.2).rs := ho79
 replace ho82 : VotT F81 w75 v8 (((doD actTs 0 0 (CA.mk 2 1 6 none 0 []) (acQ [])).2.2).s) := ho82
 replace ho85 : Led F84 w75 l9 ((doD actTs 0 0 (CA.mk 2 1 6 none 0 []) (acQ [])).2.2).xs ((doD actTs 0 0 (CA.mk 2 1 6 none 0 []) (acQ [])).2.2).cs := ho85
 rw [kn2] at ho79
 rw [kn2] at ho82
 rw [kn2] at ho85
 replace ho79 : Rfr F78 w75 r6 gg7 actTs (acQ []).rs := ho79
 replace ho82 : VotT F81 w75 v8 ((acQ []).s) := ho82
 replace ho85 : Led F84 w75 l9 (acQ []).xs (acQ []).cs := ho85
 refine Gp_ [(2, .slice A44 1 cap44), (3, nt 0), (40, .tuple #[.slice A77 (((doD actTs 0 0 (CA.mk 2 1 6 none 0 []) (acQ [])).1).length) cap77, nt ((doD actTs 0 0 (CA.mk 2 1 6 none 0 []) (acQ [])).2.1)])] <| Gq_ (u := .tuple #[.slice A77 (((doD actTs 0 0 (CA.mk 2 1 6 none 0 []) (acQ [])).1).length) cap77, nt ((doD actTs 0 0 (CA.mk 2 1 6 none 0 []) (acQ [])).2.1)]) (v := .tuple #[.slice A77 0 cap77, nt 10]) 40 (by rw [show (doD actTs 0 0 (CA.mk 2 1 6 none 0 []) (acQ [])).1 = ([] : List Evt) from by rw [kn2]]; rw [kn2] <;> rfl) <| Gn [] [2, 3, 5] <| GI_end <| X_then <| Vr <| On 9 [5, 50, 51] ?_
 obtain ⟨b103, o103, L103, T103, rfl, hat103⟩ := SlT.open_ hA44 (by first | omega | (simp only [List.length_map]; omega) | (simp; done) | (simp; omega))
 have hb103lt := hat103.blk.lt
 have hob104 := ow44 b103 ⟨_, rfl, rfl⟩
 have hob105 := ltA44 b103 ⟨_, rfl, rfl⟩
 have hne106 : ∀ q, F78 q → q ≠ b103 := fun q hq hs => dis96 q hq ⟨_, rfl, hs⟩
 have own107 := fun q hq => And.intro (own95 q hq) (hne106 q hq)
 have hne108 : ∀ q, F81 q → q ≠ b103 := fun q hq hs => dis99 q hq ⟨_, rfl, hs⟩
 have own109 := fun q hq => And.intro (own98 q hq) (hne108 q hq)
 have hne110 : ∀ q, F84 q → q ≠ b103 := fun q hq hs => dis102 q hq ⟨_, rfl, hs⟩
 have own111 := fun q hq => And.intro (own101 q hq) (hne110 q hq)
 exact Oi (b := b103) (o := o103) (len := 1) (cap := cap44) (j := 0) (some 52) 27 (.tmp 51) (.const (Value.int IntKind.i64 0)) 52 3 24 .i64 <| La (o103 + 0 * 3) (Evt.cells (Evt.mk 5 1 7)) 3 hat103.blk (At.elem' hat103 (es_at (rfl : ([Evt.mk 5 1 7] : List Evt)[0]? = some (Evt.mk 5 1 7)))) (At.len hat103 (es_at (rfl : ([Evt.mk 5 1 7] : List Evt)[0]? = some (Evt.mk 5 1 7)))) <| On 12 [5, 50, 53, 54] <| OI_pure (some 55) ((Op.binOp BinOp.eql 52 (Operand.tmp 53) (Operand.tmp 54) 52)) (by kernel_rfl) (pure_eql_same (xs := Evt.cells (Evt.mk 5 1 7)) (by kernel_rfl) (by kernel_rfl) (by kernel_rfl) (by kernel_rfl)) <| Oen [0] <| Rr (.bool true) ⟨rfl, hK0⟩
end Go.Al

namespace Go.Al
open Go Go.RowKit Go.Proofs
theorem spend_E {xs : List Acc} {a n : Int} (ha : isA a = true) (hn : 0 ≤ n ∧ n ≤ 1073741824) : spendsE xs [] a n = if n > (acct xs a).free then 6 else if n > 0 ∧ (acct xs a).free - n < 0 then 7 else 0 := by
  unfold spendsE
  simp_all [lockedL, rowL, lockM]
section
variable {fs : List Int} {to n : Int} {j : Nat}
theorem isA_true {a : Int} (h : 0 ≤ a ∧ a < 10) : isA a = true := decide_eq_true h
end
end Go.Al

namespace Go.Al
open Go Go.RowKit Go.Proofs
theorem and7 (x : Int) : 0 ≤ bAnd x 7 ∧ bAnd x 7 ≤ 7 := bAnd_le x 7 (by decide)
end Go.Al

namespace Go.Al
open Go Go.RowKit Go.Proofs
theorem take_st {l : List Int} {i : Nat} {x : Int} (h : l[i]? = some x) : l.take (i + 1) = l.take i ++ [x] ∧ (l.take i).length = i := by
  obtain ⟨h1, h2⟩ := List.getElem?_eq_some_iff.1 h
  rw [List.take_succ_eq_append_getElem h1, h2]
  exact ⟨rfl, by rw [List.length_take]; omega⟩
theorem lift_int (x : List Value) (h : Flat [.int .i64] x) : ∃ y : Int, intc y = x := by
  match x, h with
  | [], h => exact h.elim
  | [_], h => obtain ⟨⟨n, rfl, _⟩, _⟩ := h; exact ⟨n, rfl⟩
  | _ :: _ :: _, h => exact h.2.elim
end Go.Al

namespace Go.Al
open Go Go.RowKit Go.Proofs
abbrev l2 (to n : Int) : CA := .mk 2 to n none 0 []
abbrev l1 (n : Int) : CA := .mk 1 0 n none 0 []
def LfN (c : CA) : Prop := (∃ (j : Nat) (y : Int), j < 3 ∧ c = l2 (1 + (j : Int)) (bAnd y 7)) ∨ ∃ y : Int, c = l1 (bAnd y 7)
def rowE (c : CA) : Evt := if c.k = 2 then Evt.mk 3 c.to c.n else Evt.mk 5 1 c.n
def rowN (u : RW) (c : CA) : RW := if c.k = 2 then ⟨addF (subF u.xs 0 c.n) c.to c.n, u.cs, u.s, u.rs⟩ else u
def nesQ (l : List CA) : RW := l.foldl rowN (acQ [])
def NX (a b c : Int) : RW := ⟨[⟨100 - (a + b + c), 0⟩, ⟨100 + a, 0⟩, ⟨100 + b, 0⟩, ⟨100 + c, 0⟩, ⟨100, 0⟩, ⟨100, 0⟩, ⟨100, 0⟩, ⟨100, 0⟩, ⟨100, 0⟩, ⟨100, 0⟩], [], VS.zero, []⟩
def GN (k : Nat) (u : RW) : Prop := ∃ a b c : Int, 0 ≤ a ∧ 0 ≤ b ∧ 0 ≤ c ∧ a + b + c ≤ 7 * k ∧ u = NX a b c
theorem NX_step {a b c n : Int} {j : Nat} (hj : j < 3) : rowN (NX a b c) (l2 (1 + (j : Int)) n) = (match j with | 0 => NX (a + n) b c | 1 => NX a (b + n) c | _ => NX a b (c + n)) := by
  have e : 100 - (a + b + c) - n = 100 - (a + b + c + n) := by omega
  match j, hj with
  | 0, _ =>
    show (⟨[⟨100 - (a + b + c) - n, 0⟩, ⟨100 + a + n, 0⟩, ⟨100 + b, 0⟩, ⟨100 + c, 0⟩, ⟨100, 0⟩, ⟨100, 0⟩, ⟨100, 0⟩, ⟨100, 0⟩, ⟨100, 0⟩, ⟨100, 0⟩], [], VS.zero, []⟩ : RW) = NX (a + n) b c
    unfold NX; rw [show 100 - (a + b + c) - n = 100 - (a + n + b + c) by omega, show 100 + a + n = 100 + (a + n) by omega]
  | 1, _ =>
    show (⟨[⟨100 - (a + b + c) - n, 0⟩, ⟨100 + a, 0⟩, ⟨100 + b + n, 0⟩, ⟨100 + c, 0⟩, ⟨100, 0⟩, ⟨100, 0⟩, ⟨100, 0⟩, ⟨100, 0⟩, ⟨100, 0⟩, ⟨100, 0⟩], [], VS.zero, []⟩ : RW) = NX a (b + n) c
    unfold NX; rw [show 100 - (a + b + c) - n = 100 - (a + (b + n) + c) by omega, show 100 + b + n = 100 + (b + n) by omega]
  | 2, _ =>
    show (⟨[⟨100 - (a + b + c) - n, 0⟩, ⟨100 + a, 0⟩, ⟨100 + b, 0⟩, ⟨100 + c + n, 0⟩, ⟨100, 0⟩, ⟨100, 0⟩, ⟨100, 0⟩, ⟨100, 0⟩, ⟨100, 0⟩, ⟨100, 0⟩], [], VS.zero, []⟩ : RW) = NX a b (c + n)
    unfold NX; rw [show 100 - (a + b + c) - n = 100 - (a + b + (c + n)) by omega, show 100 + c + n = 100 + (c + n) by omega]
theorem GN_step {k : Nat} {u : RW} {c : CA} (h : GN k u) (hc : LfN c) : GN (k + 1) (rowN u c) := by
  obtain ⟨x, y, z, h1, h2, h3, h4, rfl⟩ := h
  rcases hc with ⟨j, n, hj, rfl⟩ | ⟨n, rfl⟩
  · have h7 := and7 n
    rw [NX_step hj]
    match j, hj with
    | 0, _ => exact ⟨_, _, _, by omega, h2, h3, by omega, rfl⟩
    | 1, _ => exact ⟨_, _, _, h1, by omega, h3, by omega, rfl⟩
    | 2, _ => exact ⟨_, _, _, h1, h2, by omega, by omega, rfl⟩
  · exact ⟨x, y, z, h1, h2, h3, by omega, rfl⟩
theorem GN_fold : ∀ (l : List CA) (k : Nat) (u : RW), GN k u → (∀ c ∈ l, LfN c) → GN (k + l.length) (l.foldl rowN u)
  | [], _, _, h, _ => h
  | c :: l, k, u, h, hl => by
    rw [List.length_cons, show k + (l.length + 1) = k + 1 + l.length by omega]
    exact GN_fold l (k + 1) _ (GN_step h (hl c (List.mem_cons_self ..))) (fun x hx => hl x (List.mem_cons_of_mem _ hx))
theorem GN_row {l : List CA} (h : ∀ c ∈ l, LfN c) : GN l.length (nesQ l) := by
  have := GN_fold l 0 (acQ []) ⟨0, 0, 0, by omega, by omega, by omega, by omega, rfl⟩ h
  rwa [Nat.zero_add] at this
theorem GN_do {k : Nat} {u : RW} {c : CA} (h : GN k u) (hk : k ≤ 10) (hc : LfN c) (f : Nat) (now : Int) : doC actTs 1 now f c u = ([rowE c], 0, rowN u c) := by
  obtain ⟨x, y, z, h1, h2, h3, h4, rfl⟩ := h
  rcases hc with ⟨j, n, hj, rfl⟩ | ⟨n, rfl⟩
  · have h7 := and7 n
    have s1 : spendsE (NX x y z).xs [] 0 (bAnd n 7) = 0 := by
      rw [spend_E rfl (by omega)]
      show (if bAnd n 7 > 100 - (x + y + z) then _ else if bAnd n 7 > 0 ∧ 100 - (x + y + z) - bAnd n 7 < 0 then _ else _) = _
      rw [if_neg (by omega), if_neg (by omega)]
    have ha : isA (1 + (j : Int)) = true := isA_true (by omega)
    have s2 : transE (NX x y z).xs [] 0 (1 + (j : Int)) (bAnd n 7) = 0 := by unfold transE; rw [ha, s1]; rfl
    have s3 : transX (NX x y z).xs [] 0 (1 + (j : Int)) (bAnd n 7) = addF (subF (NX x y z).xs 0 (bAnd n 7)) (1 + (j : Int)) (bAnd n 7) := by unfold transX; rw [s1, if_pos ⟨ha, rfl⟩]
    have h5 : doC actTs 1 now f (l2 (1 + (j : Int)) (bAnd n 7)) (NX x y z) = spS actT1 (l2 (1 + (j : Int)) (bAnd n 7)) (NX x y z) := by cases f <;> rfl
    rw [h5]; unfold spS
    show (if bAnd n 7 > 50 then _ else _) = _
    rw [if_neg (by omega)]
    show (if transE (NX x y z).xs [] 0 (1 + (j : Int)) (bAnd n 7) ≠ 0 then _ else ([Evt.mk 3 (1 + (j : Int)) (bAnd n 7)], 0, (⟨transX (NX x y z).xs [] 0 (1 + (j : Int)) (bAnd n 7), [], VS.zero, []⟩ : RW))) = _
    rw [s2, s3]; rfl
  · cases f <;> rfl
theorem LfN_ok {c : CA} (hc : LfN c) (f : Nat) : okCA f c = true := by
  rcases hc with ⟨j, n, hj, rfl⟩ | ⟨n, rfl⟩
  · have h7 := and7 n
    cases f <;> (show stepC _ _ _ = true; unfold stepC; simp [CA.k, CA.to, CA.n, CA.kids, h7.1, (by omega : bAnd n 7 ≤ 1073741824), (by omega : 0 ≤ 1 + (j : Int)), (by omega : 1 + (j : Int) ≤ 9)])
  · have h7 := and7 n
    cases f <;> (show stepC _ _ _ = true; unfold stepC; simp [CA.k, CA.to, CA.n, CA.kids, h7.1, (by omega : bAnd n 7 ≤ 1073741824)])
theorem GN_bat (f : Nat) (now : Int) : ∀ (l : List CA) (k : Nat) (u : RW) (es : List Evt), GN k u → k + l.length ≤ 10 → (∀ c ∈ l, LfN c) → batS (doC actTs 1 now f) l es u = (es ++ l.map rowE, 0, l.foldl rowN u)
  | [], _, _, es, _, _, _ => by simp [batS]
  | c :: l, k, u, es, h, hk, hl => by
    rw [List.length_cons] at hk
    rw [batS, GN_do h (by omega) (hl c (List.mem_cons_self ..)), if_neg (fun h => h rfl), GN_bat f now l (k + 1) _ _ (GN_step h (hl c (List.mem_cons_self ..))) (by omega) (fun x hx => hl x (List.mem_cons_of_mem _ hx))]
    simp
theorem batS_last (dk : CA → RW → RsA) (c : CA) : ∀ (l : List CA) (es : List Evt) (u u2 : RW) (es2 : List Evt), batS dk l es u = (es2, 0, u2) → batS dk (l ++ [c]) es u = batS dk [c] es2 u2
  | [], es, u, u2, es2, h => by simp only [batS, Prod.mk.injEq] at h; obtain ⟨rfl, _, rfl⟩ := h; rfl
  | x :: l, es, u, u2, es2, h => by
    rw [List.cons_append, batS]
    rw [batS] at h
    split at h
    · rename_i hx; simp only [Prod.mk.injEq] at h; exact absurd h.2.1 hx
    · rename_i hx; rw [if_neg hx]; exact batS_last dk c l _ _ _ _ h
theorem nest_law {A A2 : Option Addr} {cap cap2 : Nat} {S R : List CA} (hS : ∀ c ∈ S, LfN c) (hR : ∀ c ∈ R, LfN c) (h1 : S.length ≤ 3) (h2 : 1 ≤ R.length) (h3 : R.length ≤ 4) :
    doD actTs 1 3 (.mk 5 0 0 A cap (S ++ [.mk 5 0 0 A2 cap2 R])) (acQ []) = ((S ++ R).map rowE, 0, nesQ (S ++ R)) := by
  have hi : okCA 2 (.mk 5 0 0 A2 cap2 R) = true := by
    show stepC true (okCA 1) _ = true
    have ha : R.all (okCA 1) = true := List.all_eq_true.2 fun x hx => LfN_ok (hR x hx) 1
    unfold stepC
    simp only [CA.k, CA.to, CA.n, CA.kids, ha]
    simp [h3]; omega
  have hk : okCA 3 (.mk 5 0 0 A cap (S ++ [.mk 5 0 0 A2 cap2 R])) = true := by
    show stepC true (okCA 2) _ = true
    have ha : (S ++ [CA.mk 5 0 0 A2 cap2 R]).all (okCA 2) = true := List.all_eq_true.2 fun x hx => by
      rcases List.mem_append.1 hx with h | h
      · exact LfN_ok (hS x h) 2
      · rw [List.mem_singleton.1 h]; exact hi
    unfold stepC
    simp only [CA.k, CA.to, CA.n, CA.kids, ha, List.length_append, List.length_cons, List.length_nil]
    simp [h1]
  have hd : doD actTs 1 3 (.mk 5 0 0 A cap (S ++ [.mk 5 0 0 A2 cap2 R])) (acQ []) = batS (doC actTs 1 3 2) (S ++ [.mk 5 0 0 A2 cap2 R]) [] (acQ []) := by
    unfold doD
    rw [if_neg (by rintro (h | h); cases h; rw [hk] at h; cases h)]; rfl
  have hg : GN 0 (acQ []) := ⟨0, 0, 0, by omega, by omega, by omega, by omega, rfl⟩
  have b1 := GN_bat 2 3 S 0 (acQ []) [] hg (by omega) hS
  rw [hd, batS_last _ _ _ _ _ _ _ b1]
  have hin : doC actTs 1 3 2 (.mk 5 0 0 A2 cap2 R) (S.foldl rowN (acQ [])) = batS (doC actTs 1 3 1) R [] (S.foldl rowN (acQ [])) := rfl
  rw [batS, hin, GN_bat 1 3 R S.length (S.foldl rowN (acQ [])) [] (GN_row hS) (by omega) hR, if_neg (fun h => h rfl)]
  simp [batS, nesQ]
theorem row_law {l : List CA} {i : Nat} {c : CA} (hl : ∀ c ∈ l, LfN c) (h7 : l.length ≤ 7) (h : l[i]? = some c) : doD actTs 1 3 c (nesQ (l.take i)) = ([rowE c], 0, nesQ (l.take (i + 1))) := by
  obtain ⟨h1, h2⟩ := List.getElem?_eq_some_iff.1 h
  have hc := hl c (List.mem_of_getElem? h)
  have hg := GN_row (l := l.take i) (fun x hx => hl x (List.mem_of_mem_take hx))
  unfold doD
  rw [if_neg (by rintro (h | h); cases h; rw [LfN_ok hc] at h; cases h), GN_do hg (by rw [List.length_take]; omega) hc]
  rw [List.take_succ_eq_append_getElem h1, h2]
  simp [nesQ]
end Go.Al

namespace Go.Al
open Go Go.RowKit Go.Proofs
def kS : Nat → List Int → List CA
  | _, [] => []
  | j, x :: l => l2 (1 + (j : Int)) (bAnd x 7) :: kS (j + 1) l
def kR (l : List Int) : List CA := l.map fun y => l1 (bAnd y 7)
theorem kS_app : ∀ (l : List Int) (j : Nat) (x : Int), kS j (l ++ [x]) = kS j l ++ [l2 (1 + ((j + l.length : Nat) : Int)) (bAnd x 7)]
  | [], _, _ => rfl
  | y :: l, j, x => by
    show l2 _ _ :: kS (j + 1) (l ++ [x]) = _
    rw [kS_app l (j + 1) x, show j + 1 + l.length = j + (y :: l).length by simp; omega]; rfl
theorem kS_len : ∀ (l : List Int) (j : Nat), (kS j l).length = l.length
  | [], _ => rfl
  | _ :: l, j => by simp [kS, kS_len l (j + 1)]
theorem kR_app (l : List Int) (y : Int) : kR (l ++ [y]) = kR l ++ [l1 (bAnd y 7)] := by simp [kR]
theorem kR_len (l : List Int) : (kR l).length = l.length := by simp [kR]
theorem kS_leaf : ∀ (l : List Int) (j : Nat), j + l.length ≤ 3 → ∀ c ∈ kS j l, LfN c
  | [], _, _, _, h => by cases h
  | x :: l, j, hl, c, h => by
    rw [List.length_cons] at hl
    rcases List.mem_cons.1 h with rfl | h
    · exact .inl ⟨j, x, by omega, rfl⟩
    · exact kS_leaf l (j + 1) (by omega) c h
theorem kR_leaf (l : List Int) : ∀ c ∈ kR l, LfN c := fun c hc => by
  obtain ⟨y, _, rfl⟩ := List.mem_map.1 hc
  exact .inr ⟨y, rfl⟩
theorem LfN_rep {D : Nat → Prop} {w : World} {c : CA} (h : LfN c) : RepIn D w c := by
  rcases h with ⟨j, y, _, rfl⟩ | ⟨y, rfl⟩ <;> exact RepIn.none (fun q h => (inA_none h).elim)
theorem take_ca {l : List CA} {i : Nat} {x : CA} (h : l[i]? = some x) : l.take (i + 1) = l.take i ++ [x] ∧ (l.take i).length = i := by
  obtain ⟨h1, h2⟩ := List.getElem?_eq_some_iff.1 h
  rw [List.take_succ_eq_append_getElem h1, h2]
  exact ⟨rfl, by rw [List.length_take]; omega⟩
set_option maxHeartbeats 2000000 in
theorem walk_ActNests (Al : Option Addr) (cAl : Nat) (ls : List Int) (Am : Option Addr) (cAm : Nat) (ms : List Int) (w : World) (hAl0 : ArgT w 1 intc Al cAl ls) (hAm0 : ArgT w 1 intc Am cAm ms) (hn : ls.length ≤ 9223372036854775807) (hn2 : ms.length ≤ 9223372036854775807) : Calls Tryz.prog 6 #[.slice Al ls.length cAl, .slice Am ms.length cAm] w (rk_ w (.bool true)) := by
 have hAl := hAl0
 have hAm := hAm0
 have hK0 : Keep none_ w w := Keep.refl _ _
 have hzhK0 := Keep.size hK0
 refine eV ?_
 refine Vr <| On 1 [0, 1] <| Oe <| V_seq <| Vr <| On 4 [0, 1, 24] ?_
 by_cases hg1 : (ls.length : Int) < 1
 ·
  exact Dt 24 hg1 <| Oen [0, 1, 38] <| Vo <| Vn [4] <| Rt <| Xr (.bool true) ⟨rfl, hK0⟩
 refine Df 24 hg1 <| On 9 [0, 1, 29] ?_
 by_cases hg2 : (ls.length : Int) > 3
 ·
  exact Dt 29 hg2 <| Oen [0, 1, 38] <| Vo <| Vn [4] <| Rt <| Xr (.bool true) ⟨rfl, hK0⟩
 refine Df 29 hg2 <| On 14 [0, 1, 34] ?_
 by_cases hg3 : (ms.length : Int) < 1
 ·
  exact Dt 34 hg3 <| Oen [0, 1, 38] <| Vo <| Vn [4] <| Rt <| Xr (.bool true) ⟨rfl, hK0⟩
 refine Df 34 hg3 <| Oen [0, 1, 38] <| Vi ((ms.length : Int) > 4) (fun hc4 => ?_) (fun hc4 => ?_)
 ·
  exact Vn [4] <| Rt <| Xr (.bool true) ⟨rfl, hK0⟩
 refine Vsk <| Vr <| Kg (begin0 none 0 [] _ (.inl rfl) (by simp)) ?_
 rintro _ w7 ⟨b9, r10, gg11, v12, l13, H14, F15, G16, xv17, yv18, zv19, rfl, hb20, hR21, hV22, hL23, hk8, hge24, oH25, oF26, oG27, dHF28, dHG29, dFG30⟩
 refine ⟨_, rfl, ?_⟩
 have hsz31 := Keep.size hk8
 replace hAl := ArgT.keep0 hAl hk8
 replace hAm := ArgT.keep0 hAm hk8
 replace hK0 := hK0.tn hk8
 have hb9lt := hb20.lt
 have own32 : ∀ q, H14 q → w.heap.size ≤ q ∧ q ≠ b9 := fun q hq => by have h1 := oH25 q hq; omega
 have lt33 := Rfr.lt hR21
 have own34 : ∀ q, F15 q → w.heap.size ≤ q ∧ q ≠ b9 := fun q hq => by have h1 := oF26 q hq; omega
 have lt35 := VotT.lt hV22
 have own36 : ∀ q, G16 q → w.heap.size ≤ q ∧ q ≠ b9 := fun q hq => by have h1 := oG27 q hq; omega
 have lt37 := Led.lt hL23
 replace hR21 : Rfr H14 w7 r10 gg11 actTs (acQ []).rs := hR21
 replace hV22 : VotT F15 w7 v12 ((acQ []).s) := hV22
 replace hL23 : Led G16 w7 l13 (acQ []).xs (acQ []).cs := hL23
 refine Kg (begin0 none 0 [] _ (.inl rfl) (by simp)) ?_
 rintro _ w40 ⟨b42, r43, gg44, v45, l46, H47, F48, G49, xv50, yv51, zv52, rfl, hb53, hR54, hV55, hL56, hk41, hge57, oH58, oF59, oG60, dHF61, dHG62, dFG63⟩
 refine ⟨_, rfl, ?_⟩
 have hsz64 := Keep.size hk41
 replace hAl := ArgT.keep0 hAl hk41
 replace hAm := ArgT.keep0 hAm hk41
 replace hK0 := hK0.tn hk41
 replace hR21 := hR21.keep hk41 nk
 replace hV22 := hV22.keep hk41 nk
 replace hL23 := hL23.keep hk41 nk
 have hb42lt := hb53.lt
 have own65 : ∀ q, H47 q → w7.heap.size ≤ q ∧ q ≠ b9 ∧ q ≠ b42 := fun q hq => by have h1 := oH58 q hq; omega
 have lt66 := Rfr.lt hR54
 have own67 : ∀ q, F48 q → w7.heap.size ≤ q ∧ q ≠ b9 ∧ q ≠ b42 := fun q hq => by have h1 := oF59 q hq; omega
 have lt68 := VotT.lt hV55
 have own69 : ∀ q, G49 q → w7.heap.size ≤ q ∧ q ≠ b9 ∧ q ≠ b42 := fun q hq => by have h1 := oG60 q hq; omega
 have lt70 := Led.lt hL56
 have dis71 : ∀ q, H47 q → ¬ H14 q := fun q h1 h2 => by have h3 := oH58 q h1; have h4 := lt33 q h2; omega
 have dis72 : ∀ q, F48 q → ¬ H14 q := fun q h1 h2 => by have h3 := oF59 q h1; have h4 := lt33 q h2; omega
 have dis73 : ∀ q, G49 q → ¬ H14 q := fun q h1 h2 => by have h3 := oG60 q h1; have h4 := lt33 q h2; omega
 have dis74 : ∀ q, H47 q → ¬ F15 q := fun q h1 h2 => by have h3 := oH58 q h1; have h4 := lt35 q h2; omega
 have dis75 : ∀ q, F48 q → ¬ F15 q := fun q h1 h2 => by have h3 := oF59 q h1; have h4 := lt35 q h2; omega
 have dis76 : ∀ q, G49 q → ¬ F15 q := fun q h1 h2 => by have h3 := oG60 q h1; have h4 := lt35 q h2; omega
 have dis77 : ∀ q, H47 q → ¬ G16 q := fun q h1 h2 => by have h3 := oH58 q h1; have h4 := lt37 q h2; omega
 have dis78 : ∀ q, F48 q → ¬ G16 q := fun q h1 h2 => by have h3 := oF59 q h1; have h4 := lt37 q h2; omega
 have dis79 : ∀ q, G49 q → ¬ G16 q := fun q h1 h2 => by have h3 := oG60 q h1; have h4 := lt37 q h2; omega
 replace hR54 : Rfr H47 w40 r43 gg44 actTs (acQ []).rs := hR54
 replace hV55 : VotT F48 w40 v45 ((acQ []).s) := hV55
 replace hL56 : Led G49 w40 l46 (acQ []).xs (acQ []).cs := hL56
 refine On 4 [0, 1, 5, 6] <| Oe <| V_seq <| Vn [0, 1, 5, 6, 46] <| Vf <| Vsk <| Vr <| On 1 [0, 1, 5, 6, 7] <| Oer <| On 2 [0, 1, 5, 6, 7, 47, 48] <| Alc_ 26 (.agg #[nt 0, nt 0, nt 0, .slice none 0 0]) [nt 0, nt 0, nt 0, .slice none 0 0] ?_
 intro b80 w80 e80 hb80 k80 z80
 have hsz81 := Keep.size k80
 replace hAl := ArgT.keep0 hAl k80
 replace hAm := ArgT.keep0 hAm k80
 replace hK0 := hK0.tn k80
 replace hR21 := hR21.keep k80 nk
 replace hV22 := hV22.keep k80 nk
 replace hL23 := hL23.keep k80 nk
 replace hR54 := hR54.keep k80 nk
 replace hV55 := hV55.keep k80 nk
 replace hL56 := hL56.keep k80 nk
 have hb80lt := hb80.lt
 refine Alc_ 26 (.agg #[nt 0, nt 0, nt 0, .slice none 0 0]) [nt 0, nt 0, nt 0, .slice none 0 0] ?_
 intro b82 w82 e82 hb82 k82 z82
 have hsz83 := Keep.size k82
 replace hb20 := hb20.k0 ((hk41.tr k80).tr k82)
 replace hb53 := hb53.k0 (k80.tr k82)
 replace hb80 := hb80.k0 k82
 replace hAl := ArgT.keep0 hAl k82
 replace hAm := ArgT.keep0 hAm k82
 replace hK0 := hK0.tn k82
 replace hR21 := hR21.keep k82 nk
 replace hV22 := hV22.keep k82 nk
 replace hL23 := hL23.keep k82 nk
 replace hR54 := hR54.keep k82 nk
 replace hV55 := hV55.keep k82 nk
 replace hL56 := hL56.keep k82 nk
 have hb82lt := hb82.lt
 refine OI_set (m := 4) (kd := true) 26 (.tmp 8) (.tmp 47) 0 (.agg #[nt 5, nt 0, nt 0, .slice none 0 0]) [nt 5, nt 0, nt 0, .slice none 0 0] none (by kernel_rfl) (by kernel_rfl) (by kernel_rfl) hb80 (by kernel_rfl) (by kernel_rfl) (by kernel_rfl) (Nat.le_of_ble_eq_true (by kernel_rfl)) (by simp [Value.oneCell']) ?_
 intro w84 hb80_87 hk85 hz86
 replace hb80_87 : Blk w84 b80 [nt 5, nt 0, nt 0, .slice none 0 0] 26 := hb80_87
 have hsz88 := Keep.size hk85
 replace hb20 := hb20.k1 hk85
 replace hb53 := hb53.k1 hk85
 replace hb82 := hb82.k1 hk85
 replace hAl := ArgT.keep hAl hk85 hAl0 (fun k hk hs => by have hs : k = b80 := hs; omega)
 replace hAm := ArgT.keep hAm hk85 hAm0 (fun k hk hs => by have hs : k = b80 := hs; omega)
 replace hK0 := Keep.fr hK0 hk85
 replace hR21 := hR21.keep hk85 (fun q hq hs => by have hs : q = b80 := hs; have g0 := own32 q hq; have g1 := lt33 q hq; omega)
 replace hV22 := hV22.keep hk85 (fun q hq hs => by have hs : q = b80 := hs; have g0 := own34 q hq; have g1 := lt35 q hq; omega)
 replace hL23 := hL23.keep hk85 (fun q hq hs => by have hs : q = b80 := hs; have g0 := own36 q hq; have g1 := lt37 q hq; omega)
 replace hR54 := hR54.keep hk85 (fun q hq hs => by have hs : q = b80 := hs; have g0 := own65 q hq; have g1 := lt66 q hq; omega)
 replace hV55 := hV55.keep hk85 (fun q hq hs => by have hs : q = b80 := hs; have g0 := own67 q hq; have g1 := lt68 q hq; omega)
 replace hL56 := hL56.keep hk85 (fun q hq hs => by have hs : q = b80 := hs; have g0 := own69 q hq; have g1 := lt70 q hq; omega)
 refine OI_set (m := 4) (kd := true) 26 (.tmp 9) (.tmp 48) 0 (.agg #[nt 5, nt 0, nt 0, .slice none 0 0]) [nt 5, nt 0, nt 0, .slice none 0 0] none (by kernel_rfl) (by kernel_rfl) (by kernel_rfl) hb82 (by kernel_rfl) (by kernel_rfl) (by kernel_rfl) (Nat.le_of_ble_eq_true (by kernel_rfl)) (by simp [Value.oneCell']) ?_
 intro w89 hb82_92 hk90 hz91
 replace hb82_92 : Blk w89 b82 [nt 5, nt 0, nt 0, .slice none 0 0] 26 := hb82_92
 have hsz93 := Keep.size hk90
 replace hb20 := hb20.k1 hk90
 replace hb53 := hb53.k1 hk90
 replace hb80_87 := hb80_87.k1 hk90
 replace hAl := ArgT.keep hAl hk90 hAl0 (fun k hk hs => by have hs : k = b82 := hs; omega)
 replace hAm := ArgT.keep hAm hk90 hAm0 (fun k hk hs => by have hs : k = b82 := hs; omega)
 replace hK0 := Keep.fr hK0 hk90
 replace hR21 := hR21.keep hk90 (fun q hq hs => by have hs : q = b82 := hs; have g0 := own32 q hq; have g1 := lt33 q hq; omega)
 replace hV22 := hV22.keep hk90 (fun q hq hs => by have hs : q = b82 := hs; have g0 := own34 q hq; have g1 := lt35 q hq; omega)
 replace hL23 := hL23.keep hk90 (fun q hq hs => by have hs : q = b82 := hs; have g0 := own36 q hq; have g1 := lt37 q hq; omega)
 replace hR54 := hR54.keep hk90 (fun q hq hs => by have hs : q = b82 := hs; have g0 := own65 q hq; have g1 := lt66 q hq; omega)
 replace hV55 := hV55.keep hk90 (fun q hq hs => by have hs : q = b82 := hs; have g0 := own67 q hq; have g1 := lt68 q hq; omega)
 replace hL56 := hL56.keep hk90 (fun q hq hs => by have hs : q = b82 := hs; have g0 := own69 q hq; have g1 := lt70 q hq; omega)
 refine Oe <| V_seq <| Vn [0, 1, 5, 6, 7, 8, 9, 10] <| V_block <| Vp [(0, .slice Al ls.length cAl), (1, .slice Am ms.length cAm), (5, pt b9), (6, pt b42), (7, .slice none 0 0), (8, pt b80), (9, pt b82), (10, nt 0)] <| V_loop (fun k wI e => ∃ i : Nat, ∃ A1 : Option Addr, ∃ cap1 : Nat, ∃ A2 : Option Addr, ∃ cap2 : Nat, ∃ S : List CA, (k + i = ls.length) ∧ (i ≤ 3) ∧ (S = kS 0 (ls.take i)) ∧ (Blk wI b80 [nt 5, nt 0, nt 0, .slice A1 S.length cap1] 26) ∧ (SlT wI 4 CA.cells A1 cap1 S) ∧ (SlT wI 4 CA.cells A2 cap2 S) ∧ (∀ q, inA A1 q → w.heap.size ≤ q ∧ q ≠ b80 ∧ q ≠ b82 ∧ w89.heap.size ≤ q) ∧ (∀ q, inA A2 q → w.heap.size ≤ q ∧ q ≠ b80 ∧ q ≠ b82 ∧ w89.heap.size ≤ q) ∧ (∀ q, inA A1 q → ¬ inA A2 q) ∧ Keep (only b80) w89 wI ∧ e = [(0, .slice Al ls.length cAl), (1, .slice Am ms.length cAm), (5, pt b9), (6, pt b42), (7, .slice A2 S.length cap2), (8, pt b80), (9, pt b82), (10, nt (i : Int))]) ls.length ⟨0, none, 0, none, 0, [], by omega, by omega, rfl, hb80_87, SlT.nil _ _ _, SlT.nil _ _ _, fun q h => (inA_none h).elim, fun q h => (inA_none h).elim, fun q h => (inA_none h).elim, Keep.refl _ _, rfl⟩ ?_
 rintro k95 w94 _ ⟨i, A1, cap1, A2, cap2, S, hki, hi3, hS, hbo, hA1, hA2, ow1, ow2, d12, hk96, rfl⟩
 have hsz97 := Keep.size hk96
 replace hb20 := hb20.k1 hk96
 replace hb53 := hb53.k1 hk96
 replace hb82_92 := hb82_92.k1 hk96
 replace hAl := ArgT.keep hAl hk96 hAl0 (fun k hk hs => by have hs : k = b80 := hs; omega)
 replace hAm := ArgT.keep hAm hk96 hAm0 (fun k hk hs => by have hs : k = b80 := hs; omega)
 replace hK0 := Keep.fr hK0 hk96
 replace hR21 := hR21.keep hk96 (fun q hq hs => by have hs : q = b80 := hs; have g0 := own32 q hq; have g1 := lt33 q hq; omega)
 replace hV22 := hV22.keep hk96 (fun q hq hs => by have hs : q = b80 := hs; have g0 := own34 q hq; have g1 := lt35 q hq; omega)
 replace hL23 := hL23.keep hk96 (fun q hq hs => by have hs : q = b80 := hs; have g0 := own36 q hq; have g1 := lt37 q hq; omega)
 replace hR54 := hR54.keep hk96 (fun q hq hs => by have hs : q = b80 := hs; have g0 := own65 q hq; have g1 := lt66 q hq; omega)
 replace hV55 := hV55.keep hk96 (fun q hq hs => by have hs : q = b80 := hs; have g0 := own67 q hq; have g1 := lt68 q hq; omega)
 replace hL56 := hL56.keep hk96 (fun q hq hs => by have hs : q = b80 := hs; have g0 := own69 q hq; have g1 := lt70 q hq; omega)
 have hzhk96 := Keep.size hk96
 have hb80lt := hbo.lt
 have lt1 := SlT.lt hA1
 have dis98 : ∀ q, inA A1 q → ¬ H14 q := fun q h1 h2 => by have h3 := ow1 q h1; have h4 := lt33 q h2; omega
 have dis99 : ∀ q, inA A1 q → ¬ F15 q := fun q h1 h2 => by have h3 := ow1 q h1; have h4 := lt35 q h2; omega
 have dis100 : ∀ q, inA A1 q → ¬ G16 q := fun q h1 h2 => by have h3 := ow1 q h1; have h4 := lt37 q h2; omega
 have dis101 : ∀ q, inA A1 q → ¬ H47 q := fun q h1 h2 => by have h3 := ow1 q h1; have h4 := lt66 q h2; omega
 have dis102 : ∀ q, inA A1 q → ¬ F48 q := fun q h1 h2 => by have h3 := ow1 q h1; have h4 := lt68 q h2; omega
 have dis103 : ∀ q, inA A1 q → ¬ G49 q := fun q h1 h2 => by have h3 := ow1 q h1; have h4 := lt70 q h2; omega
 have lt2 := SlT.lt hA2
 have dis104 : ∀ q, inA A2 q → ¬ H14 q := fun q h1 h2 => by have h3 := ow2 q h1; have h4 := lt33 q h2; omega
 have dis105 : ∀ q, inA A2 q → ¬ F15 q := fun q h1 h2 => by have h3 := ow2 q h1; have h4 := lt35 q h2; omega
 have dis106 : ∀ q, inA A2 q → ¬ G16 q := fun q h1 h2 => by have h3 := ow2 q h1; have h4 := lt37 q h2; omega
 have dis107 : ∀ q, inA A2 q → ¬ H47 q := fun q h1 h2 => by have h3 := ow2 q h1; have h4 := lt66 q h2; omega
 have dis108 : ∀ q, inA A2 q → ¬ F48 q := fun q h1 h2 => by have h3 := ow2 q h1; have h4 := lt68 q h2; omega
 have dis109 : ∀ q, inA A2 q → ¬ G49 q := fun q h1 h2 => by have h3 := ow2 q h1; have h4 := lt70 q h2; omega
 have hSl : S.length = i := by rw [hS, kS_len, List.length_take]; omega
 refine V_seq <| Vn [0, 1, 5, 6, 7, 8, 9, 10, 52] <| Vi ((i : Int) < (ls.length : Int)) (fun hc110 => ?_) (fun hc110 => ?_)
 ·
  refine Vsk <| V_seq <| V_block <| Vr ?_
  have hw111 : IntKind.i64.wrap (1 + (i : Int)) = ((1 + i : Nat) : Int) := (wrap64_id (by omega) (by omega)).trans (by omega)
  refine On 2 [0, 1, 5, 6, 7, 8, 9, 10, 56] <| Oq (u := nt (IntKind.i64.wrap (1 + (i : Int)))) (v := nt ((1 + i : Nat) : Int)) 56 (by rw [hw111]) <| On 4 [0, 1, 5, 6, 7, 8, 9, 10, 56, 57, 58] ?_
  obtain ⟨b112, o112, L112, rfl, hat112⟩ := ArgT.open_ hAl (by first | omega | (simp only [List.length_map]; omega) | (simp; done) | (simp; omega))
  have hb112lt0 := ArgT.lt hAl0 (by first | omega | (simp only [List.length_map]; omega) | (simp; done) | (simp; omega))
  have hb112lt := hat112.blk.lt
  refine Oi (b := b112) (o := o112) (len := ls.length) (cap := cAl) (j := i) (some 59) 49 (.tmp 57) (.tmp 58) 3 1 8 .i64 ?_
  obtain ⟨x113, hx114⟩ : ∃ x, ls[i]? = some x := ⟨_, List.getElem?_eq_getElem (by first | omega | (simp only [List.length_map]; omega))⟩
  refine OI_cellR 3 (.tmp 59) (o112 + i * 1) (nt x113) (some 60) (by kernel_rfl) (by kernel_rfl) hat112.blk (m := 1) (by kernel_rfl) (AtR.cell0 hat112 (es_at hx114) rfl) <| On 8 [0, 1, 5, 6, 7, 8, 9, 10, 62] <| Alc_ 26 (.agg #[nt 0, nt 0, nt 0, .slice none 0 0]) [nt 0, nt 0, nt 0, .slice none 0 0] ?_
  intro b115 w115 e115 hb115 k115 z115
  have hsz116 := Keep.size k115
  replace hbo := hbo.k0 k115
  replace hA1 := hA1.keep0 k115
  replace hA2 := hA2.keep0 k115
  replace hk96 := hk96.tn k115
  have hb115lt := hb115.lt
  refine Sg 0 (CA.cells (CA.mk 2 ((1 + i : Nat) : Int) (bAnd x113 7) none 0 [])) hb115 (CA.len _) (CA.one _) ?_
  intro w117 hb115_120 hk118 hz119
  replace hb115_120 : Blk w117 b115 (CA.cells (CA.mk 2 ((1 + i : Nat) : Int) (bAnd x113 7) none 0 [])) 26 := (by rwa [over_whole (by rw [CA.len]; rfl)] at hb115_120)
  have hsz121 := Keep.size hk118
  replace hbo := hbo.k1 hk118
  replace hA1 := hA1.keep hk118 (fun q hq hs => by have hs : q = b115 := hs; have g0 := ow1 q hq; have g1 := lt1 q hq; omega)
  replace hA2 := hA2.keep hk118 (fun q hq hs => by have hs : q = b115 := hs; have g0 := ow2 q hq; have g1 := lt2 q hq; omega)
  replace hk96 := Keep.fr hk96 hk118
  refine Oer <| On 1 [0, 1, 5, 6, 7, 8, 9, 10, 11, 63] <| Lr 3 (.slice A1 S.length cap1) hbo <| La 0 (CA.cells (CA.mk 2 ((1 + i : Nat) : Int) (bAnd x113 7) none 0 [])) 4 hb115_120 (take_all (CA.len _)) (CA.len _) <| OI_slit (E := 26) (zv := .agg #[nt 0, nt 0, nt 0, .slice none 0 0]) (sz := 4) (by_ := 48) 24 1 #[(0, (Operand.tmp 65))] [.agg (CA.cells (CA.mk 2 ((1 + i : Nat) : Int) (bAnd x113 7) none 0 [])).toArray] (CA.cells (CA.mk 2 ((1 + i : Nat) : Int) (bAnd x113 7) none 0 [])) (some 66) (by kernel_rfl) (by kernel_rfl) (by kernel_rfl) (by omega) rfl (by omega) (by intro v hv; obtain rfl := List.mem_singleton.1 hv; show (CA.cells (CA.mk 2 ((1 + i : Nat) : Int) (bAnd x113 7) none 0 [])).toArray.size = 4; simp [CA.len]) (by kernel_rfl) (by show (CA.cells (CA.mk 2 ((1 + i : Nat) : Int) (bAnd x113 7) none 0 [])).toArray.toList ++ [] = _; simp) ?_
  intro b122 w122 e122 hb122 k122 z122
  have hsz123 := Keep.size k122
  replace hbo := hbo.k0 k122
  replace hb115_120 := hb115_120.k0 k122
  replace hA1 := hA1.keep0 k122
  replace hA2 := hA2.keep0 k122
  replace hk96 := hk96.tn k122
  have hb122lt := hb122.lt
  refine OI_append (t := 24) (at2 := 24) (E := 26) (E2 := 26) (sz := 4) (by_ := 48) (zv := .agg #[nt 0, nt 0, nt 0, .slice none 0 0]) (m := S.length) (k := 1) (.tmp 64) (.tmp 66) (.slice A1 S.length cap1) (sl_ b122 0 1 1) (some 67) (by kernel_rfl) (by kernel_rfl) (by kernel_rfl) (by kernel_rfl) (by kernel_rfl) (by kernel_rfl) (by kernel_rfl) (SlT.slr hA1) (slr_one hb122 (CA.len (CA.mk 2 ((1 + i : Nat) : Int) (bAnd x113 7) none 0 []))) (CA.one (CA.mk 2 ((1 + i : Nat) : Int) (bAnd x113 7) none 0 [])) (by first | omega | (simp only [List.length_nil]; omega)) (by omega) (by first | omega | (simp only [List.length_nil]; omega)) (by omega) ?_
  intro vv9 w124 hap
  obtain ⟨A124, cap124, rfl, hA124, hk124, own124x⟩ := app_one (f := CA.cells) (xs := S) (x := (CA.mk 2 ((1 + i : Nat) : Int) (bAnd x113 7) none 0 [])) (A := A1) (cap := cap1) hap (fun x _ => CA.len x) (CA.len _)
  have own124 : ∀ q, inA A124 q → w.heap.size ≤ q ∧ q ≠ b80 ∧ q ≠ b82 ∧ w89.heap.size ≤ q := fun q hq => by rcases own124x q hq with h | h; exact ow1 q h; (show w.heap.size ≤ q ∧ q ≠ b80 ∧ q ≠ b82 ∧ w89.heap.size ≤ q; omega)
  have hsz125 := Keep.size hk124
  replace hbo := hbo.keep hk124 (fun hs => by have h1 := ow1 _ hs; have h2 := lt1 _ hs; omega)
  replace hb115_120 := hb115_120.keep hk124 (fun hs => by have h1 := ow1 _ hs; have h2 := lt1 _ hs; omega)
  replace hA2 := hA2.keep hk124 (fun q hq hs => d12 q hs hq)
  replace hk96 := Keep.fresh hk96 hk124 (by intro i hi hs; first | exact hs | (exfalso; have h1 := ow1 i hs; have h2 := lt1 i hs; omega) | (have h1 := ow1 i hs; have h2 := lt1 i hs; show _ ∨ _; omega))
  have lt124 := SlT.lt hA124
  have dis126 : ∀ q, inA A124 q → ¬ inA A2 q := fun q h1 h2 => by rcases own124x q h1 with h | h; exact d12 q h h2; (have h4 := lt2 q h2; omega)
  have dis127 : ∀ q, inA A124 q → ¬ H14 q := fun q h1 h2 => by rcases own124x q h1 with h | h; exact dis98 q h h2; (have h4 := lt33 q h2; omega)
  have dis128 : ∀ q, inA A124 q → ¬ F15 q := fun q h1 h2 => by rcases own124x q h1 with h | h; exact dis99 q h h2; (have h4 := lt35 q h2; omega)
  have dis129 : ∀ q, inA A124 q → ¬ G16 q := fun q h1 h2 => by rcases own124x q h1 with h | h; exact dis100 q h h2; (have h4 := lt37 q h2; omega)
  have dis130 : ∀ q, inA A124 q → ¬ H47 q := fun q h1 h2 => by rcases own124x q h1 with h | h; exact dis101 q h h2; (have h4 := lt66 q h2; omega)
  have dis131 : ∀ q, inA A124 q → ¬ F48 q := fun q h1 h2 => by rcases own124x q h1 with h | h; exact dis102 q h h2; (have h4 := lt68 q h2; omega)
  have dis132 : ∀ q, inA A124 q → ¬ G49 q := fun q h1 h2 => by rcases own124x q h1 with h | h; exact dis103 q h h2; (have h4 := lt70 q h2; omega)
  refine On 6 [0, 1, 5, 6, 7, 8, 9, 10, 11, 67, 68] <| St_ 3 (.slice A124 ((S ++ [CA.mk 2 ((1 + i : Nat) : Int) (bAnd x113 7) none 0 []]).length) cap124) hbo ?_
  intro w133 hb80_136 hk134 hz135
  replace hb80_136 : Blk w133 b80 [nt 5, nt 0, nt 0, .slice A124 ((S ++ [CA.mk 2 ((1 + i : Nat) : Int) (bAnd x113 7) none 0 []]).length) cap124] 26 := hb80_136
  have hsz137 := Keep.size hk134
  replace hb115_120 := hb115_120.k1 hk134
  replace hA2 := hA2.keep hk134 (fun q hq hs => by have hs : q = b80 := hs; have g0 := ow2 q hq; have g1 := lt2 q hq; omega)
  replace hA124 := hA124.keep hk134 (fun q hq hs => by have hs : q = b80 := hs; have g0 := own124 q hq; have g1 := lt124 q hq; omega)
  replace hk96 := Keep.fr hk96 hk134
  refine Oe <| V_region <| On 1 [0, 1, 5, 6, 8, 9, 10, 11, 69] <| La 0 (CA.cells (CA.mk 2 ((1 + i : Nat) : Int) (bAnd x113 7) none 0 [])) 4 hb115_120 (take_all (CA.len _)) (CA.len _) <| OI_slit (E := 26) (zv := .agg #[nt 0, nt 0, nt 0, .slice none 0 0]) (sz := 4) (by_ := 48) 24 1 #[(0, (Operand.tmp 70))] [.agg (CA.cells (CA.mk 2 ((1 + i : Nat) : Int) (bAnd x113 7) none 0 [])).toArray] (CA.cells (CA.mk 2 ((1 + i : Nat) : Int) (bAnd x113 7) none 0 [])) (some 71) (by kernel_rfl) (by kernel_rfl) (by kernel_rfl) (by omega) rfl (by omega) (by intro v hv; obtain rfl := List.mem_singleton.1 hv; show (CA.cells (CA.mk 2 ((1 + i : Nat) : Int) (bAnd x113 7) none 0 [])).toArray.size = 4; simp [CA.len]) (by kernel_rfl) (by show (CA.cells (CA.mk 2 ((1 + i : Nat) : Int) (bAnd x113 7) none 0 [])).toArray.toList ++ [] = _; simp) ?_
  intro b138 w138 e138 hb138 k138 z138
  have hsz139 := Keep.size k138
  replace hb80_136 := hb80_136.k0 k138
  replace hA2 := hA2.keep0 k138
  replace hA124 := hA124.keep0 k138
  replace hk96 := hk96.tn k138
  have hb138lt := hb138.lt
  refine OI_append (t := 24) (at2 := 24) (E := 26) (E2 := 26) (sz := 4) (by_ := 48) (zv := .agg #[nt 0, nt 0, nt 0, .slice none 0 0]) (m := S.length) (k := 1) (.tmp 69) (.tmp 71) (.slice A2 S.length cap2) (sl_ b138 0 1 1) (some 72) (by kernel_rfl) (by kernel_rfl) (by kernel_rfl) (by kernel_rfl) (by kernel_rfl) (by kernel_rfl) (by kernel_rfl) (SlT.slr hA2) (slr_one hb138 (CA.len (CA.mk 2 ((1 + i : Nat) : Int) (bAnd x113 7) none 0 []))) (CA.one (CA.mk 2 ((1 + i : Nat) : Int) (bAnd x113 7) none 0 [])) (by first | omega | (simp only [List.length_nil]; omega)) (by omega) (by first | omega | (simp only [List.length_nil]; omega)) (by omega) ?_
  intro vv9 w140 hap
  obtain ⟨A140, cap140, rfl, hA140, hk140, own140x⟩ := app_one (f := CA.cells) (xs := S) (x := (CA.mk 2 ((1 + i : Nat) : Int) (bAnd x113 7) none 0 [])) (A := A2) (cap := cap2) hap (fun x _ => CA.len x) (CA.len _)
  have own140 : ∀ q, inA A140 q → w.heap.size ≤ q ∧ q ≠ b80 ∧ q ≠ b82 ∧ w89.heap.size ≤ q := fun q hq => by rcases own140x q hq with h | h; exact ow2 q h; (show w.heap.size ≤ q ∧ q ≠ b80 ∧ q ≠ b82 ∧ w89.heap.size ≤ q; omega)
  have hsz141 := Keep.size hk140
  replace hb80_136 := hb80_136.keep hk140 (fun hs => by have h1 := ow2 _ hs; have h2 := lt2 _ hs; omega)
  replace hA124 := hA124.keep hk140 (fun q hq hs => (fun q h1 h2 => dis126 q h2 h1) q hs hq)
  replace hk96 := Keep.fresh hk96 hk140 (by intro i hi hs; first | exact hs | (exfalso; have h1 := ow2 i hs; have h2 := lt2 i hs; omega) | (have h1 := ow2 i hs; have h2 := lt2 i hs; show _ ∨ _; omega))
  have lt140 := SlT.lt hA140
  have dis142 : ∀ q, inA A140 q → ¬ inA A124 q := fun q h1 h2 => by rcases own140x q h1 with h | h; exact (fun q h1 h2 => dis126 q h2 h1) q h h2; (have h4 := lt124 q h2; omega)
  have dis143 : ∀ q, inA A140 q → ¬ H14 q := fun q h1 h2 => by rcases own140x q h1 with h | h; exact dis104 q h h2; (have h4 := lt33 q h2; omega)
  have dis144 : ∀ q, inA A140 q → ¬ F15 q := fun q h1 h2 => by rcases own140x q h1 with h | h; exact dis105 q h h2; (have h4 := lt35 q h2; omega)
  have dis145 : ∀ q, inA A140 q → ¬ G16 q := fun q h1 h2 => by rcases own140x q h1 with h | h; exact dis106 q h h2; (have h4 := lt37 q h2; omega)
  have dis146 : ∀ q, inA A140 q → ¬ H47 q := fun q h1 h2 => by rcases own140x q h1 with h | h; exact dis107 q h h2; (have h4 := lt66 q h2; omega)
  have dis147 : ∀ q, inA A140 q → ¬ F48 q := fun q h1 h2 => by rcases own140x q h1 with h | h; exact dis108 q h h2; (have h4 := lt68 q h2; omega)
  have dis148 : ∀ q, inA A140 q → ¬ G49 q := fun q h1 h2 => by rcases own140x q h1 with h | h; exact dis109 q h h2; (have h4 := lt70 q h2; omega)
  refine On 5 [0, 1, 5, 6, 7, 8, 9, 10] <| OI_end rfl <| X_block <| X_then <| V_region ?_
  have hw149 : IntKind.i64.wrap ((i : Int) + 1) = ((i + 1 : Nat) : Int) := (wrap64_id (by omega) (by omega)).trans (by omega)
  refine On 2 [0, 1, 5, 6, 7, 8, 9, 54] <| Oq (u := nt (IntKind.i64.wrap ((i : Int) + 1))) (v := nt ((i + 1 : Nat) : Int)) 54 (by rw [hw149]) <| Os 3 [(0, sl_ b112 o112 ls.length cAl), (1, .slice Am ms.length cAm), (5, pt b9), (6, pt b42), (7, .slice A140 ((S ++ [CA.mk 2 ((1 + i : Nat) : Int) (bAnd x113 7) none 0 []]).length) cap140), (8, pt b80), (9, pt b82), (10, nt ((i + 1 : Nat) : Int))] <| OI_end rfl ?_
  obtain ⟨hts, htl⟩ := take_st hx114
  exact V_again (k95 - 1) (by omega) [(0, sl_ b112 o112 ls.length cAl), (1, .slice Am ms.length cAm), (5, pt b9), (6, pt b42), (7, .slice A140 ((S ++ [CA.mk 2 ((1 + i : Nat) : Int) (bAnd x113 7) none 0 []]).length) cap140), (8, pt b80), (9, pt b82), (10, nt ((i + 1 : Nat) : Int))] rfl ⟨i + 1, A124, cap124, A140, cap140, S ++ [CA.mk 2 ((1 + i : Nat) : Int) (bAnd x113 7) none 0 []], by omega, by omega, by rw [hts, kS_app, ← hS, htl, Nat.zero_add]; simp [l2], hb80_136, hA124, hA140, own124, own140, (fun q h1 h2 => dis142 q h2 h1), hk96, rfl⟩
 have hiS : i = ls.length := by omega
 have hlS : ∀ c ∈ S, LfN c := by rw [hS]; exact kS_leaf _ 0 (by rw [List.length_take]; omega)
 refine V_exit <| X_exit_then <| X_exit_then <| X_exit_here <| X_then <| V_seq <| Vn [1, 5, 6, 7, 8, 9, 12] <| V_block <| Vp [(1, .slice Am ms.length cAm), (5, pt b9), (6, pt b42), (7, .slice A2 S.length cap2), (8, pt b80), (9, pt b82), (12, nt 0)] <| V_loop (fun k wI e => ∃ i : Nat, ∃ A3 : Option Addr, ∃ cap3 : Nat, ∃ A4 : Option Addr, ∃ cap4 : Nat, ∃ R : List CA, (k + i = ms.length) ∧ (i ≤ 4) ∧ (R = kR (ms.take i)) ∧ (Blk wI b82 [nt 5, nt 0, nt 0, .slice A3 R.length cap3] 26) ∧ (SlT wI 4 CA.cells A3 cap3 R) ∧ (SlT wI 4 CA.cells A4 cap4 (S ++ R)) ∧ (∀ q, inA A3 q → w.heap.size ≤ q ∧ q ≠ b80 ∧ q ≠ b82 ∧ w94.heap.size ≤ q) ∧ (∀ q, inA A4 q → w.heap.size ≤ q ∧ q ≠ b80 ∧ q ≠ b82 ∧ w89.heap.size ≤ q) ∧ (∀ q, inA A3 q → ¬ inA A4 q) ∧ (∀ q, inA A4 q → inA A2 q ∨ w94.heap.size ≤ q) ∧ Keep (fun q => (only b82) q ∨ (inA A2) q) w94 wI ∧ e = [(1, .slice Am ms.length cAm), (5, pt b9), (6, pt b42), (7, .slice A4 (S.length + R.length) cap4), (8, pt b80), (9, pt b82), (12, nt (i : Int))]) ms.length ⟨0, none, 0, A2, cap2, [], by omega, by omega, rfl, hb82_92, SlT.nil _ _ _, by rw [List.append_nil]; exact hA2, fun q h => (inA_none h).elim, ow2, fun q h => (inA_none h).elim, fun q h => .inl h, Keep.refl _ _, rfl⟩ ?_
 rintro k151 w150 _ ⟨i, A3, cap3, A4, cap4, R, hki, hi4, hR, hbi, hA3, hA4, ow3, ow4, d34, hr4, hk152, rfl⟩
 have hsz153 := Keep.size hk152
 replace hb20 := hb20.keep hk152 (fun hs => by rcases hs with hs | hs; (have u0 : _ = b82 := hs; omega); (have u0 := ow2 _ hs; have u1 := lt2 _ hs; omega))
 replace hb53 := hb53.keep hk152 (fun hs => by rcases hs with hs | hs; (have u0 : _ = b82 := hs; omega); (have u0 := ow2 _ hs; have u1 := lt2 _ hs; omega))
 replace hbo := hbo.keep hk152 (fun hs => by rcases hs with hs | hs; (have u0 : _ = b82 := hs; omega); (have u0 := ow2 _ hs; have u1 := lt2 _ hs; omega))
 replace hAm := ArgT.keep hAm hk152 hAm0 (fun k hk hs => by rcases hs with hs | hs; (have u0 : k = b82 := hs; omega); (have u0 := ow2 k hs; have u1 := lt2 k hs; omega))
 replace hA1 := hA1.keep hk152 (fun q hq hs => by rcases hs with hs | hs; (have g0 := ow1 q hq; have g1 := lt1 q hq; have u0 : q = b82 := hs; omega); exact d12 q hq hs)
 replace hK0 := Keep.fresh hK0 hk152 (by intro i hi hs; first | exact hs | (rcases hs with hs | hs; (have u0 : i = b82 := hs; omega); (have u0 := ow2 i hs; have u1 := lt2 i hs; omega)))
 replace hR21 := hR21.keep hk152 (fun q hq hs => by rcases hs with hs | hs; (have g0 := own32 q hq; have g1 := lt33 q hq; have u0 : q = b82 := hs; omega); exact (fun q h1 h2 => dis104 q h2 h1) q hq hs)
 replace hV22 := hV22.keep hk152 (fun q hq hs => by rcases hs with hs | hs; (have g0 := own34 q hq; have g1 := lt35 q hq; have u0 : q = b82 := hs; omega); exact (fun q h1 h2 => dis105 q h2 h1) q hq hs)
 replace hL23 := hL23.keep hk152 (fun q hq hs => by rcases hs with hs | hs; (have g0 := own36 q hq; have g1 := lt37 q hq; have u0 : q = b82 := hs; omega); exact (fun q h1 h2 => dis106 q h2 h1) q hq hs)
 replace hR54 := hR54.keep hk152 (fun q hq hs => by rcases hs with hs | hs; (have g0 := own65 q hq; have g1 := lt66 q hq; have u0 : q = b82 := hs; omega); exact (fun q h1 h2 => dis107 q h2 h1) q hq hs)
 replace hV55 := hV55.keep hk152 (fun q hq hs => by rcases hs with hs | hs; (have g0 := own67 q hq; have g1 := lt68 q hq; have u0 : q = b82 := hs; omega); exact (fun q h1 h2 => dis108 q h2 h1) q hq hs)
 replace hL56 := hL56.keep hk152 (fun q hq hs => by rcases hs with hs | hs; (have g0 := own69 q hq; have g1 := lt70 q hq; have u0 : q = b82 := hs; omega); exact (fun q h1 h2 => dis109 q h2 h1) q hq hs)
 have hzhk152 := Keep.size hk152
 have hb82lt := hbi.lt
 have lt3 := SlT.lt hA3
 have dis154 : ∀ q, inA A3 q → ¬ H14 q := fun q h1 h2 => by have h3 := ow3 q h1; have h4 := lt33 q h2; omega
 have dis155 : ∀ q, inA A3 q → ¬ F15 q := fun q h1 h2 => by have h3 := ow3 q h1; have h4 := lt35 q h2; omega
 have dis156 : ∀ q, inA A3 q → ¬ G16 q := fun q h1 h2 => by have h3 := ow3 q h1; have h4 := lt37 q h2; omega
 have dis157 : ∀ q, inA A3 q → ¬ H47 q := fun q h1 h2 => by have h3 := ow3 q h1; have h4 := lt66 q h2; omega
 have dis158 : ∀ q, inA A3 q → ¬ F48 q := fun q h1 h2 => by have h3 := ow3 q h1; have h4 := lt68 q h2; omega
 have dis159 : ∀ q, inA A3 q → ¬ G49 q := fun q h1 h2 => by have h3 := ow3 q h1; have h4 := lt70 q h2; omega
 have lt4 := SlT.lt hA4
 have dis160 : ∀ q, inA A4 q → ¬ H14 q := fun q h1 h2 => by have h3 := ow4 q h1; have h4 := lt33 q h2; omega
 have dis161 : ∀ q, inA A4 q → ¬ F15 q := fun q h1 h2 => by have h3 := ow4 q h1; have h4 := lt35 q h2; omega
 have dis162 : ∀ q, inA A4 q → ¬ G16 q := fun q h1 h2 => by have h3 := ow4 q h1; have h4 := lt37 q h2; omega
 have dis163 : ∀ q, inA A4 q → ¬ H47 q := fun q h1 h2 => by have h3 := ow4 q h1; have h4 := lt66 q h2; omega
 have dis164 : ∀ q, inA A4 q → ¬ F48 q := fun q h1 h2 => by have h3 := ow4 q h1; have h4 := lt68 q h2; omega
 have dis165 : ∀ q, inA A4 q → ¬ G49 q := fun q h1 h2 => by have h3 := ow4 q h1; have h4 := lt70 q h2; omega
 have d14 : ∀ q, inA A1 q → ¬ inA A4 q := fun q h1 h2 => by rcases hr4 q h2 with h | h; exact d12 q h1 h; (have h3 := lt1 q h1; omega)
 have d13 : ∀ q, inA A1 q → ¬ inA A3 q := fun q h1 h2 => by have h3 := ow3 q h2; have h4 := lt1 q h1; omega
 refine V_eq [(1, .slice Am ms.length cAm), (5, pt b9), (6, pt b42), (7, .slice A4 ((S ++ R).length) cap4), (8, pt b80), (9, pt b82), (12, nt (i : Int))] (by rw [List.length_append]) ?_
 have hRl : R.length = i := by rw [hR, kR_len, List.length_take]; omega
 have hSRl : (S ++ R).length = S.length + R.length := List.length_append
 refine V_seq <| Vn [1, 5, 6, 7, 8, 9, 12, 76] <| Vi ((i : Int) < (ms.length : Int)) (fun hc166 => ?_) (fun hc166 => ?_)
 ·
  refine Vsk <| V_seq <| V_block <| Vr <| On 2 [1, 5, 6, 7, 8, 9, 12, 79, 80] ?_
  obtain ⟨b167, o167, L167, rfl, hat167⟩ := ArgT.open_ hAm (by first | omega | (simp only [List.length_map]; omega) | (simp; done) | (simp; omega))
  have hb167lt0 := ArgT.lt hAm0 (by first | omega | (simp only [List.length_map]; omega) | (simp; done) | (simp; omega))
  have hb167lt := hat167.blk.lt
  refine Oi (b := b167) (o := o167) (len := ms.length) (cap := cAm) (j := i) (some 81) 49 (.tmp 79) (.tmp 80) 3 1 8 .i64 ?_
  obtain ⟨x168, hx169⟩ : ∃ x, ms[i]? = some x := ⟨_, List.getElem?_eq_getElem (by first | omega | (simp only [List.length_map]; omega))⟩
  refine OI_cellR 3 (.tmp 81) (o167 + i * 1) (nt x168) (some 82) (by kernel_rfl) (by kernel_rfl) hat167.blk (m := 1) (by kernel_rfl) (AtR.cell0 hat167 (es_at hx169) rfl) <| On 6 [1, 5, 6, 7, 8, 9, 12, 84] <| Alc_ 26 (.agg #[nt 0, nt 0, nt 0, .slice none 0 0]) [nt 0, nt 0, nt 0, .slice none 0 0] ?_
  intro b170 w170 e170 hb170 k170 z170
  have hsz171 := Keep.size k170
  replace hbi := hbi.k0 k170
  replace hA3 := hA3.keep0 k170
  replace hA4 := hA4.keep0 k170
  replace hk152 := hk152.tn k170
  have hb170lt := hb170.lt
  refine Sg 0 (CA.cells (CA.mk 1 0 (bAnd x168 7) none 0 [])) hb170 (CA.len _) (CA.one _) ?_
  intro w172 hb170_175 hk173 hz174
  replace hb170_175 : Blk w172 b170 (CA.cells (CA.mk 1 0 (bAnd x168 7) none 0 [])) 26 := (by rwa [over_whole (by rw [CA.len]; rfl)] at hb170_175)
  have hsz176 := Keep.size hk173
  replace hbi := hbi.k1 hk173
  replace hA3 := hA3.keep hk173 (fun q hq hs => by have hs : q = b170 := hs; have g0 := ow3 q hq; have g1 := lt3 q hq; omega)
  replace hA4 := hA4.keep hk173 (fun q hq hs => by have hs : q = b170 := hs; have g0 := ow4 q hq; have g1 := lt4 q hq; omega)
  replace hk152 := Keep.fr hk152 hk173
  refine Oer <| On 1 [1, 5, 6, 7, 8, 9, 12, 13, 85] <| Lr 3 (.slice A3 R.length cap3) hbi <| La 0 (CA.cells (CA.mk 1 0 (bAnd x168 7) none 0 [])) 4 hb170_175 (take_all (CA.len _)) (CA.len _) <| OI_slit (E := 26) (zv := .agg #[nt 0, nt 0, nt 0, .slice none 0 0]) (sz := 4) (by_ := 48) 24 1 #[(0, (Operand.tmp 87))] [.agg (CA.cells (CA.mk 1 0 (bAnd x168 7) none 0 [])).toArray] (CA.cells (CA.mk 1 0 (bAnd x168 7) none 0 [])) (some 88) (by kernel_rfl) (by kernel_rfl) (by kernel_rfl) (by omega) rfl (by omega) (by intro v hv; obtain rfl := List.mem_singleton.1 hv; show (CA.cells (CA.mk 1 0 (bAnd x168 7) none 0 [])).toArray.size = 4; simp [CA.len]) (by kernel_rfl) (by show (CA.cells (CA.mk 1 0 (bAnd x168 7) none 0 [])).toArray.toList ++ [] = _; simp) ?_
  intro b177 w177 e177 hb177 k177 z177
  have hsz178 := Keep.size k177
  replace hbi := hbi.k0 k177
  replace hb170_175 := hb170_175.k0 k177
  replace hA3 := hA3.keep0 k177
  replace hA4 := hA4.keep0 k177
  replace hk152 := hk152.tn k177
  have hb177lt := hb177.lt
  refine OI_append (t := 24) (at2 := 24) (E := 26) (E2 := 26) (sz := 4) (by_ := 48) (zv := .agg #[nt 0, nt 0, nt 0, .slice none 0 0]) (m := R.length) (k := 1) (.tmp 86) (.tmp 88) (.slice A3 R.length cap3) (sl_ b177 0 1 1) (some 89) (by kernel_rfl) (by kernel_rfl) (by kernel_rfl) (by kernel_rfl) (by kernel_rfl) (by kernel_rfl) (by kernel_rfl) (SlT.slr hA3) (slr_one hb177 (CA.len (CA.mk 1 0 (bAnd x168 7) none 0 []))) (CA.one (CA.mk 1 0 (bAnd x168 7) none 0 [])) (by first | omega | (simp only [List.length_nil]; omega)) (by omega) (by first | omega | (simp only [List.length_nil]; omega)) (by omega) ?_
  intro vv9 w179 hap
  obtain ⟨A179, cap179, rfl, hA179, hk179, own179x⟩ := app_one (f := CA.cells) (xs := R) (x := (CA.mk 1 0 (bAnd x168 7) none 0 [])) (A := A3) (cap := cap3) hap (fun x _ => CA.len x) (CA.len _)
  have own179 : ∀ q, inA A179 q → w.heap.size ≤ q ∧ q ≠ b80 ∧ q ≠ b82 ∧ w94.heap.size ≤ q := fun q hq => by rcases own179x q hq with h | h; exact ow3 q h; (show w.heap.size ≤ q ∧ q ≠ b80 ∧ q ≠ b82 ∧ w94.heap.size ≤ q; omega)
  have hsz180 := Keep.size hk179
  replace hbi := hbi.keep hk179 (fun hs => by have h1 := ow3 _ hs; have h2 := lt3 _ hs; omega)
  replace hb170_175 := hb170_175.keep hk179 (fun hs => by have h1 := ow3 _ hs; have h2 := lt3 _ hs; omega)
  replace hA4 := hA4.keep hk179 (fun q hq hs => d34 q hs hq)
  replace hk152 := Keep.fresh hk152 hk179 (by intro i hi hs; first | exact hs | (exfalso; have h1 := ow3 i hs; have h2 := lt3 i hs; omega) | (have h1 := ow3 i hs; have h2 := lt3 i hs; show _ ∨ _; omega))
  have lt179 := SlT.lt hA179
  have dis181 : ∀ q, inA A179 q → ¬ inA A1 q := fun q h1 h2 => by rcases own179x q h1 with h | h; exact (fun q h1 h2 => d13 q h2 h1) q h h2; (have h4 := lt1 q h2; omega)
  have dis182 : ∀ q, inA A179 q → ¬ inA A4 q := fun q h1 h2 => by rcases own179x q h1 with h | h; exact d34 q h h2; (have h4 := lt4 q h2; omega)
  have dis183 : ∀ q, inA A179 q → ¬ H14 q := fun q h1 h2 => by rcases own179x q h1 with h | h; exact dis154 q h h2; (have h4 := lt33 q h2; omega)
  have dis184 : ∀ q, inA A179 q → ¬ F15 q := fun q h1 h2 => by rcases own179x q h1 with h | h; exact dis155 q h h2; (have h4 := lt35 q h2; omega)
  have dis185 : ∀ q, inA A179 q → ¬ G16 q := fun q h1 h2 => by rcases own179x q h1 with h | h; exact dis156 q h h2; (have h4 := lt37 q h2; omega)
  have dis186 : ∀ q, inA A179 q → ¬ H47 q := fun q h1 h2 => by rcases own179x q h1 with h | h; exact dis157 q h h2; (have h4 := lt66 q h2; omega)
  have dis187 : ∀ q, inA A179 q → ¬ F48 q := fun q h1 h2 => by rcases own179x q h1 with h | h; exact dis158 q h h2; (have h4 := lt68 q h2; omega)
  have dis188 : ∀ q, inA A179 q → ¬ G49 q := fun q h1 h2 => by rcases own179x q h1 with h | h; exact dis159 q h h2; (have h4 := lt70 q h2; omega)
  refine On 6 [1, 5, 6, 7, 8, 9, 12, 13, 89, 90] <| St_ 3 (.slice A179 ((R ++ [CA.mk 1 0 (bAnd x168 7) none 0 []]).length) cap179) hbi ?_
  intro w189 hb82_192 hk190 hz191
  replace hb82_192 : Blk w189 b82 [nt 5, nt 0, nt 0, .slice A179 ((R ++ [CA.mk 1 0 (bAnd x168 7) none 0 []]).length) cap179] 26 := hb82_192
  have hsz193 := Keep.size hk190
  replace hb170_175 := hb170_175.k1 hk190
  replace hA4 := hA4.keep hk190 (fun q hq hs => by have hs : q = b82 := hs; have g0 := ow4 q hq; have g1 := lt4 q hq; omega)
  replace hA179 := hA179.keep hk190 (fun q hq hs => by have hs : q = b82 := hs; have g0 := own179 q hq; have g1 := lt179 q hq; omega)
  replace hk152 := Keep.fr hk152 hk190
  refine Oe <| V_region <| Os 1 [(1, sl_ b167 o167 ms.length cAm), (5, pt b9), (6, pt b42), (8, pt b80), (9, pt b82), (12, nt (i : Int)), (13, pt b170), (91, .slice A4 ((S ++ R).length) cap4)] <| Oa 26 (.tmp 13) 0 (CA.cells (CA.mk 1 0 (bAnd x168 7) none 0 [])) (some 92) 4 hb170_175 (take_all (CA.len _)) (CA.len _) <| OI_slit (E := 26) (zv := .agg #[nt 0, nt 0, nt 0, .slice none 0 0]) (sz := 4) (by_ := 48) 24 1 #[(0, (Operand.tmp 92))] [.agg (CA.cells (CA.mk 1 0 (bAnd x168 7) none 0 [])).toArray] (CA.cells (CA.mk 1 0 (bAnd x168 7) none 0 [])) (some 93) (by kernel_rfl) (by kernel_rfl) (by kernel_rfl) (by omega) rfl (by omega) (by intro v hv; obtain rfl := List.mem_singleton.1 hv; show (CA.cells (CA.mk 1 0 (bAnd x168 7) none 0 [])).toArray.size = 4; simp [CA.len]) (by kernel_rfl) (by show (CA.cells (CA.mk 1 0 (bAnd x168 7) none 0 [])).toArray.toList ++ [] = _; simp) ?_
  intro b194 w194 e194 hb194 k194 z194
  have hsz195 := Keep.size k194
  replace hb82_192 := hb82_192.k0 k194
  replace hA4 := hA4.keep0 k194
  replace hA179 := hA179.keep0 k194
  replace hk152 := hk152.tn k194
  have hb194lt := hb194.lt
  refine OI_append (t := 24) (at2 := 24) (E := 26) (E2 := 26) (sz := 4) (by_ := 48) (zv := .agg #[nt 0, nt 0, nt 0, .slice none 0 0]) (m := (S ++ R).length) (k := 1) (.tmp 91) (.tmp 93) (.slice A4 ((S ++ R).length) cap4) (sl_ b194 0 1 1) (some 94) (by kernel_rfl) (by kernel_rfl) (by kernel_rfl) (by kernel_rfl) (by kernel_rfl) (by kernel_rfl) (by kernel_rfl) (SlT.slr hA4) (slr_one hb194 (CA.len (CA.mk 1 0 (bAnd x168 7) none 0 []))) (CA.one (CA.mk 1 0 (bAnd x168 7) none 0 [])) (by first | omega | (simp only [List.length_nil]; omega)) (by omega) (by first | omega | (simp only [List.length_nil]; omega)) (by omega) ?_
  intro vv9 w196 hap
  obtain ⟨A196, cap196, rfl, hA196, hk196, own196x⟩ := app_one (f := CA.cells) (xs := (S ++ R)) (x := (CA.mk 1 0 (bAnd x168 7) none 0 [])) (A := A4) (cap := cap4) hap (fun x _ => CA.len x) (CA.len _)
  have own196 : ∀ q, inA A196 q → w.heap.size ≤ q ∧ q ≠ b80 ∧ q ≠ b82 ∧ w89.heap.size ≤ q := fun q hq => by rcases own196x q hq with h | h; exact ow4 q h; (show w.heap.size ≤ q ∧ q ≠ b80 ∧ q ≠ b82 ∧ w89.heap.size ≤ q; omega)
  have hsz197 := Keep.size hk196
  replace hb82_192 := hb82_192.keep hk196 (fun hs => by have h1 := ow4 _ hs; have h2 := lt4 _ hs; omega)
  replace hA179 := hA179.keep hk196 (fun q hq hs => (fun q h1 h2 => dis182 q h2 h1) q hs hq)
  replace hk152 := Keep.fresh hk152 hk196 (fun i hi hs => by rcases hr4 i hs with h | h; exact .inr h; (exfalso; omega))
  have lt196 := SlT.lt hA196
  have dis198 : ∀ q, inA A196 q → ¬ inA A1 q := fun q h1 h2 => by rcases own196x q h1 with h | h; exact (fun q h1 h2 => d14 q h2 h1) q h h2; (have h4 := lt1 q h2; omega)
  have dis199 : ∀ q, inA A196 q → ¬ inA A179 q := fun q h1 h2 => by rcases own196x q h1 with h | h; exact (fun q h1 h2 => dis182 q h2 h1) q h h2; (have h4 := lt179 q h2; omega)
  have dis200 : ∀ q, inA A196 q → ¬ H14 q := fun q h1 h2 => by rcases own196x q h1 with h | h; exact dis160 q h h2; (have h4 := lt33 q h2; omega)
  have dis201 : ∀ q, inA A196 q → ¬ F15 q := fun q h1 h2 => by rcases own196x q h1 with h | h; exact dis161 q h h2; (have h4 := lt35 q h2; omega)
  have dis202 : ∀ q, inA A196 q → ¬ G16 q := fun q h1 h2 => by rcases own196x q h1 with h | h; exact dis162 q h h2; (have h4 := lt37 q h2; omega)
  have dis203 : ∀ q, inA A196 q → ¬ H47 q := fun q h1 h2 => by rcases own196x q h1 with h | h; exact dis163 q h h2; (have h4 := lt66 q h2; omega)
  have dis204 : ∀ q, inA A196 q → ¬ F48 q := fun q h1 h2 => by rcases own196x q h1 with h | h; exact dis164 q h h2; (have h4 := lt68 q h2; omega)
  have dis205 : ∀ q, inA A196 q → ¬ G49 q := fun q h1 h2 => by rcases own196x q h1 with h | h; exact dis165 q h h2; (have h4 := lt70 q h2; omega)
  refine Op_ [(1, sl_ b167 o167 ms.length cAm), (5, pt b9), (6, pt b42), (8, pt b80), (9, pt b82), (12, nt (i : Int)), (94, .slice A196 (((S ++ R) ++ [CA.mk 1 0 (bAnd x168 7) none 0 []]).length) cap196)] <| Oq (u := .slice A196 (((S ++ R) ++ [CA.mk 1 0 (bAnd x168 7) none 0 []]).length) cap196) (v := .slice A196 (S.length + (R ++ [CA.mk 1 0 (bAnd x168 7) none 0 []]).length) cap196) 94 (by rw [List.append_assoc, List.length_append]) <| On 5 [1, 5, 6, 7, 8, 9, 12] <| OI_end rfl <| X_block <| X_then <| V_region ?_
  have hw206 : IntKind.i64.wrap ((i : Int) + 1) = ((i + 1 : Nat) : Int) := (wrap64_id (by omega) (by omega)).trans (by omega)
  refine On 2 [1, 5, 6, 7, 8, 9, 78] <| Oq (u := nt (IntKind.i64.wrap ((i : Int) + 1))) (v := nt ((i + 1 : Nat) : Int)) 78 (by rw [hw206]) <| Os 3 [(1, sl_ b167 o167 ms.length cAm), (5, pt b9), (6, pt b42), (7, .slice A196 (S.length + (R ++ [CA.mk 1 0 (bAnd x168 7) none 0 []]).length) cap196), (8, pt b80), (9, pt b82), (12, nt ((i + 1 : Nat) : Int))] <| OI_end rfl ?_
  obtain ⟨hts, htl⟩ := take_st hx169
  have hsl9 := hA196; rw [List.append_assoc] at hsl9
  exact V_again (k151 - 1) (by omega) [(1, sl_ b167 o167 ms.length cAm), (5, pt b9), (6, pt b42), (7, .slice A196 (S.length + (R ++ [CA.mk 1 0 (bAnd x168 7) none 0 []]).length) cap196), (8, pt b80), (9, pt b82), (12, nt ((i + 1 : Nat) : Int))] rfl ⟨i + 1, A179, cap179, A196, cap196, R ++ [CA.mk 1 0 (bAnd x168 7) none 0 []], by omega, by omega, by rw [hts, kR_app, ← hR], hb82_192, hA179, hsl9, own179, own196, (fun q h1 h2 => dis199 q h2 h1), (fun q hq => by rcases own196x q hq with h | h; exact hr4 q h; exact .inr (by omega)), hk152, rfl⟩
 have hlR : ∀ c ∈ R, LfN c := by rw [hR]; exact kR_leaf _
 have hlf : ∀ c ∈ S ++ R, LfN c := fun c hc => by rcases List.mem_append.1 hc with h | h; exact hlS c h; exact hlR c h
 have hSR7 : (S ++ R).length = S.length + R.length := List.length_append
 refine V_exit <| X_exit_then <| X_exit_then <| X_exit_here <| X_then <| Vr <| On 1 [5, 6, 7, 8, 9, 95] <| Lr 3 (.slice A1 S.length cap1) hbo <| La 0 [nt 5, nt 0, nt 0, .slice A3 R.length cap3] 4 hbi rfl rfl <| OI_slit (E := 26) (zv := .agg #[nt 0, nt 0, nt 0, .slice none 0 0]) (sz := 4) (by_ := 48) 24 1 #[(0, (Operand.tmp 97))] [.agg #[nt 5, nt 0, nt 0, .slice A3 R.length cap3]] [nt 5, nt 0, nt 0, .slice A3 R.length cap3] (some 98) (by kernel_rfl) (by kernel_rfl) (by kernel_rfl) (by omega) rfl (by omega) (by intro v hv; simp only [List.mem_cons, List.not_mem_nil, or_false] at hv; rcases hv with rfl <;> rfl) (by kernel_rfl) rfl ?_
 intro b207 w207 e207 hb207 k207 z207
 have hsz208 := Keep.size k207
 replace hb20 := hb20.k0 k207
 replace hb53 := hb53.k0 k207
 replace hbo := hbo.k0 k207
 replace hA1 := hA1.keep0 k207
 replace hA3 := hA3.keep0 k207
 replace hA4 := hA4.keep0 k207
 replace hK0 := hK0.tn k207
 replace hR21 := hR21.keep k207 nk
 replace hV22 := hV22.keep k207 nk
 replace hL23 := hL23.keep k207 nk
 replace hR54 := hR54.keep k207 nk
 replace hV55 := hV55.keep k207 nk
 replace hL56 := hL56.keep k207 nk
 have hb207lt := hb207.lt
 refine OI_append (t := 24) (at2 := 24) (E := 26) (E2 := 26) (sz := 4) (by_ := 48) (zv := .agg #[nt 0, nt 0, nt 0, .slice none 0 0]) (m := S.length) (k := 1) (.tmp 96) (.tmp 98) (.slice A1 S.length cap1) (sl_ b207 0 1 1) (some 99) (by kernel_rfl) (by kernel_rfl) (by kernel_rfl) (by kernel_rfl) (by kernel_rfl) (by kernel_rfl) (by kernel_rfl) (SlT.slr hA1) (slr_one hb207 (CA.len (CA.mk 5 0 0 A3 cap3 R))) (CA.one (CA.mk 5 0 0 A3 cap3 R)) (by first | omega | (simp only [List.length_nil]; omega)) (by omega) (by first | omega | (simp only [List.length_nil]; omega)) (by omega) ?_
 intro vv9 w209 hap
 obtain ⟨A209, cap209, rfl, hA209, hk209, own209x⟩ := app_one (f := CA.cells) (xs := S) (x := (CA.mk 5 0 0 A3 cap3 R)) (A := A1) (cap := cap1) hap (fun x _ => CA.len x) (CA.len _)
 have own209 : ∀ q, inA A209 q → w.heap.size ≤ q ∧ q ≠ b80 ∧ q ≠ b82 ∧ w89.heap.size ≤ q := fun q hq => by rcases own209x q hq with h | h; exact ow1 q h; (show w.heap.size ≤ q ∧ q ≠ b80 ∧ q ≠ b82 ∧ w89.heap.size ≤ q; omega)
 have hsz210 := Keep.size hk209
 replace hb20 := hb20.keep hk209 (fun hs => by have h1 := ow1 _ hs; have h2 := lt1 _ hs; omega)
 replace hb53 := hb53.keep hk209 (fun hs => by have h1 := ow1 _ hs; have h2 := lt1 _ hs; omega)
 replace hbo := hbo.keep hk209 (fun hs => by have h1 := ow1 _ hs; have h2 := lt1 _ hs; omega)
 replace hA3 := hA3.keep hk209 (fun q hq hs => d13 q hs hq)
 replace hA4 := hA4.keep hk209 (fun q hq hs => d14 q hs hq)
 replace hK0 := Keep.fresh hK0 hk209 (by intro i hi hs; first | exact hs | (exfalso; have h1 := ow1 i hs; have h2 := lt1 i hs; omega) | (have h1 := ow1 i hs; have h2 := lt1 i hs; show _ ∨ _; omega))
 replace hR21 := hR21.keep hk209 (fun q hq hs => dis98 q hs hq)
 replace hV22 := hV22.keep hk209 (fun q hq hs => dis99 q hs hq)
 replace hL23 := hL23.keep hk209 (fun q hq hs => dis100 q hs hq)
 replace hR54 := hR54.keep hk209 (fun q hq hs => dis101 q hs hq)
 replace hV55 := hV55.keep hk209 (fun q hq hs => dis102 q hs hq)
 replace hL56 := hL56.keep hk209 (fun q hq hs => dis103 q hs hq)
 have lt209 := SlT.lt hA209
 have dis211 : ∀ q, inA A209 q → ¬ inA A3 q := fun q h1 h2 => by rcases own209x q h1 with h | h; exact d13 q h h2; (have h4 := lt3 q h2; omega)
 have dis212 : ∀ q, inA A209 q → ¬ inA A4 q := fun q h1 h2 => by rcases own209x q h1 with h | h; exact d14 q h h2; (have h4 := lt4 q h2; omega)
 have dis213 : ∀ q, inA A209 q → ¬ H14 q := fun q h1 h2 => by rcases own209x q h1 with h | h; exact dis98 q h h2; (have h4 := lt33 q h2; omega)
 have dis214 : ∀ q, inA A209 q → ¬ F15 q := fun q h1 h2 => by rcases own209x q h1 with h | h; exact dis99 q h h2; (have h4 := lt35 q h2; omega)
 have dis215 : ∀ q, inA A209 q → ¬ G16 q := fun q h1 h2 => by rcases own209x q h1 with h | h; exact dis100 q h h2; (have h4 := lt37 q h2; omega)
 have dis216 : ∀ q, inA A209 q → ¬ H47 q := fun q h1 h2 => by rcases own209x q h1 with h | h; exact dis101 q h h2; (have h4 := lt66 q h2; omega)
 have dis217 : ∀ q, inA A209 q → ¬ F48 q := fun q h1 h2 => by rcases own209x q h1 with h | h; exact dis102 q h h2; (have h4 := lt68 q h2; omega)
 have dis218 : ∀ q, inA A209 q → ¬ G49 q := fun q h1 h2 => by rcases own209x q h1 with h | h; exact dis103 q h h2; (have h4 := lt70 q h2; omega)
 refine On 6 [5, 6, 7, 8, 99, 100] <| St_ 3 (.slice A209 ((S ++ [CA.mk 5 0 0 A3 cap3 R]).length) cap209) hbo ?_
 intro w219 hb80_222 hk220 hz221
 replace hb80_222 : Blk w219 b80 [nt 5, nt 0, nt 0, .slice A209 ((S ++ [CA.mk 5 0 0 A3 cap3 R]).length) cap209] 26 := hb80_222
 have hsz223 := Keep.size hk220
 replace hb20 := hb20.k1 hk220
 replace hb53 := hb53.k1 hk220
 replace hA3 := hA3.keep hk220 (fun q hq hs => by have hs : q = b80 := hs; have g0 := ow3 q hq; have g1 := lt3 q hq; omega)
 replace hA4 := hA4.keep hk220 (fun q hq hs => by have hs : q = b80 := hs; have g0 := ow4 q hq; have g1 := lt4 q hq; omega)
 replace hA209 := hA209.keep hk220 (fun q hq hs => by have hs : q = b80 := hs; have g0 := own209 q hq; have g1 := lt209 q hq; omega)
 replace hK0 := Keep.fr hK0 hk220
 replace hR21 := hR21.keep hk220 (fun q hq hs => by have hs : q = b80 := hs; have g0 := own32 q hq; have g1 := lt33 q hq; omega)
 replace hV22 := hV22.keep hk220 (fun q hq hs => by have hs : q = b80 := hs; have g0 := own34 q hq; have g1 := lt35 q hq; omega)
 replace hL23 := hL23.keep hk220 (fun q hq hs => by have hs : q = b80 := hs; have g0 := own36 q hq; have g1 := lt37 q hq; omega)
 replace hR54 := hR54.keep hk220 (fun q hq hs => by have hs : q = b80 := hs; have g0 := own65 q hq; have g1 := lt66 q hq; omega)
 replace hV55 := hV55.keep hk220 (fun q hq hs => by have hs : q = b80 := hs; have g0 := own67 q hq; have g1 := lt68 q hq; omega)
 replace hL56 := hL56.keep hk220 (fun q hq hs => by have hs : q = b80 := hs; have g0 := own69 q hq; have g1 := lt70 q hq; omega)
 refine Oe <| V_seq <| V_draws (acts [13]) none_ [[0, 1, 2, 3, 4, 5, 6, 7, 8, 9, 10, 11, 12, 13, 14, 15, 16, 17, 18]] (by kernel_rfl) (by repeat first | exact (by first | exact sure_body (by rintro _ _ ⟨_, _, h, _⟩; exact ⟨_, h⟩) | exact sure_body (by rintro _ _ ⟨_, _, _, _, _, _, _, _, _, _, _, h, _⟩; exact ⟨_, h⟩) | exact sure_body (by rintro _ _ ⟨h, _⟩; exact ⟨_, h⟩)) | refine sure_then ?_ | refine sure_block ?_ | refine sure_join ?_) (by kernel_rfl) ?_
 intro w225 hk224 he226 L hL227
 have hsz228 := Keep.size hk224
 replace hb20 := hb20.k0 hk224
 replace hb53 := hb53.k0 hk224
 replace hb80_222 := hb80_222.k0 hk224
 replace hA3 := hA3.keep0 hk224
 replace hA4 := hA4.keep0 hk224
 replace hA209 := hA209.keep0 hk224
 replace hK0 := hK0.tn hk224
 replace hR21 := hR21.keep hk224 nk
 replace hV22 := hV22.keep hk224 nk
 replace hL23 := hL23.keep hk224 nk
 replace hR54 := hR54.keep hk224 nk
 replace hV55 := hV55.keep hk224 nk
 replace hL56 := hL56.keep hk224 nk
 have qhb20 := hb20
 have qhb53 := hb53
 have qhb80_222 := hb80_222
 have qhA4 := hA4
 have K229 : Keep none_ w225 w225 := Keep.refl _ _
 obtain rfl := List.mem_singleton.1 hL227
 refine Gn [3, 4, 5, 6, 7, 8, 9, 10, 11, 12, 13, 14, 15, 16, 17, 18] [5, 6, 7, 8, 104] <| Mr 0 (pt l13) qhb20 <| Gn [7, 8, 9, 10, 11, 12, 13, 14, 15, 16, 17, 18] [5, 6, 7, 8, 105, 108] <| Mr 1 (pt v12) qhb20 <| Gs [11, 12, 13, 14, 15, 16, 17, 18] [(5, pt b9), (6, pt b42), (7, .slice A4 ((S ++ R).length) cap4), (8, pt b80), (105, pt l13), (109, pt v12), (112, po_ b9 2)] <| Gc0 33 (.tmp 112) 2 (pt r10) (some 113) qhb20 rfl <| Ga 26 (.tmp 8) 0 [nt 5, nt 0, nt 0, .slice A209 ((S ++ [CA.mk 5 0 0 A3 cap3 R]).length) cap209] (some 114) 4 qhb80_222 id rfl rfl ?_
 have hE := nest_law (A := A209) (cap := cap209) (A2 := A3) (cap2 := cap3) hlS hlR (by omega) (by omega) (by omega)
 refine Gk0 (kl 10 #[(.tmp 105), (.tmp 109), (.tmp 113), (.tmp 114), (.const (nt 1)), (.const (nt 3))] #[31, 32, 33, 26, 3, 3]) 10 #[pt l13, pt v12, pt r10, .agg #[nt 5, nt 0, nt 0, .slice A209 ((S ++ [CA.mk 5 0 0 A3 cap3 R]).length) cap209], nt 1, nt 3] (some 115) (do_spec (fun q => inA A209 q ∨ inA A3 q) (CA.mk 5 0 0 A209 cap209 (S ++ [CA.mk 5 0 0 A3 cap3 R])) r10 gg11 actTs v12 l13 1 3 H14 F15 G16 (acQ []) _ (RepIn.mk (c := (CA.mk 5 0 0 A209 cap209 (S ++ [CA.mk 5 0 0 A3 cap3 R]))) (SlT.arg hA209) (fun q h => .inl h) (fun x hx => by rcases List.mem_append.1 hx with h | h; exact LfN_rep (hlS x h); (rw [List.mem_singleton.1 h]; exact RepIn.mk (c := CA.mk 5 0 0 A3 cap3 R) (SlT.arg hA3) (fun q h => .inr h) (fun x h => LfN_rep (hlR x h))))) hR21 hV22 hL23 dHF28 dHG29 dFG30 (fun q h => by rcases h with h | h; exact ⟨SlT.lt hA209 q h, dis213 q h, dis214 q h, dis215 q h⟩; exact ⟨SlT.lt hA3 q h, dis154 q h, dis155 q h, dis156 q h⟩)) ?_
 rintro _ w232 ⟨A234, cap234, rfl, hA234, ow234, ⟨F235, F238, F241, ho236, ho239, ho242, hfr237, hfr240, hfr243, hdis244, hdis245, hdis246, dA247, dA248, dA249⟩, hk233⟩
 refine ⟨_, rfl, ?_⟩
 have hsz250 := Keep.size hk233
 replace hb20 := hb20.keep hk233 (fun hs => by rcases hs with hs | hs | hs; (have u9 : _ = gg11 := hs; have u0 := own32 _ (Rfr.atg hR21); have u1 := lt33 _ (Rfr.atg hR21); omega); (have u0 := own34 _ hs; have u1 := lt35 _ hs; omega); (have u0 := own36 _ hs; have u1 := lt37 _ hs; omega))
 replace hb53 := hb53.keep hk233 (fun hs => by rcases hs with hs | hs | hs; (have u9 : _ = gg11 := hs; have u0 := own32 _ (Rfr.atg hR21); have u1 := lt33 _ (Rfr.atg hR21); omega); (have u0 := own34 _ hs; have u1 := lt35 _ hs; omega); (have u0 := own36 _ hs; have u1 := lt37 _ hs; omega))
 replace hA4 := hA4.keep hk233 (fun q hq hs => by rcases hs with hs | hs | hs; exact dis160 q hq (by rw [show q = gg11 from hs]; exact (Rfr.atg hR21)); exact dis161 q hq hs; exact dis162 q hq hs)
 replace hK0 := Keep.fresh hK0 hk233 (by intro i hi hs; first | exact hs | (rcases hs with hs | hs | hs; (have u9 : _ = gg11 := hs; have u0 := own32 _ (Rfr.atg hR21); have u1 := lt33 _ (Rfr.atg hR21); omega); (have u0 := own34 i hs; have u1 := lt35 i hs; omega); (have u0 := own36 i hs; have u1 := lt37 i hs; omega)))
 replace hR54 := hR54.keep hk233 (fun q hq hs => by rcases hs with hs | hs | hs; exact dis71 q hq (by rw [show q = gg11 from hs]; exact (Rfr.atg hR21)); exact dis74 q hq hs; exact dis77 q hq hs)
 replace hV55 := hV55.keep hk233 (fun q hq hs => by rcases hs with hs | hs | hs; exact dis72 q hq (by rw [show q = gg11 from hs]; exact (Rfr.atg hR21)); exact dis75 q hq hs; exact dis78 q hq hs)
 replace hL56 := hL56.keep hk233 (fun q hq hs => by rcases hs with hs | hs | hs; exact dis73 q hq (by rw [show q = gg11 from hs]; exact (Rfr.atg hR21)); exact dis76 q hq hs; exact dis79 q hq hs)
 have own252 : ∀ q, F235 q → w.heap.size ≤ q ∧ q ≠ b9 ∧ q ≠ b42 := fun q hq => by rcases hfr237 q hq with h | h; (have h1 := own32 q h; have h2 := lt33 q h; omega); omega
 have lt251 := Rfr.lt ho236
 have dis253 : ∀ q, F235 q → ¬ inA A3 q := fun q h1 h2 => by rcases hfr237 q h1 with h | h; exact (fun q h1 h2 => dis154 q h2 h1) q h h2; (have h4 := lt3 q h2; omega)
 have dis254 : ∀ q, F235 q → ¬ inA A4 q := fun q h1 h2 => by rcases hfr237 q h1 with h | h; exact (fun q h1 h2 => dis160 q h2 h1) q h h2; (have h4 := lt4 q h2; omega)
 have dis255 : ∀ q, F235 q → ¬ inA A209 q := fun q h1 h2 => by rcases hfr237 q h1 with h | h; exact (fun q h1 h2 => dis213 q h2 h1) q h h2; (have h4 := lt209 q h2; omega)
 have dis256 : ∀ q, F235 q → ¬ H47 q := fun q h1 h2 => by rcases hfr237 q h1 with h | h; exact (fun q h1 h2 => dis71 q h2 h1) q h h2; (have h4 := lt66 q h2; omega)
 have dis257 : ∀ q, F235 q → ¬ F48 q := fun q h1 h2 => by rcases hfr237 q h1 with h | h; exact (fun q h1 h2 => dis72 q h2 h1) q h h2; (have h4 := lt68 q h2; omega)
 have dis258 : ∀ q, F235 q → ¬ G49 q := fun q h1 h2 => by rcases hfr237 q h1 with h | h; exact (fun q h1 h2 => dis73 q h2 h1) q h h2; (have h4 := lt70 q h2; omega)
 have own260 : ∀ q, F238 q → w.heap.size ≤ q ∧ q ≠ b9 ∧ q ≠ b42 := fun q hq => by rcases hfr240 q hq with h | h; (have h1 := own34 q h; have h2 := lt35 q h; omega); omega
 have lt259 := VotT.lt ho239
 have dis261 : ∀ q, F238 q → ¬ inA A3 q := fun q h1 h2 => by rcases hfr240 q h1 with h | h; exact (fun q h1 h2 => dis155 q h2 h1) q h h2; (have h4 := lt3 q h2; omega)
 have dis262 : ∀ q, F238 q → ¬ inA A4 q := fun q h1 h2 => by rcases hfr240 q h1 with h | h; exact (fun q h1 h2 => dis161 q h2 h1) q h h2; (have h4 := lt4 q h2; omega)
 have dis263 : ∀ q, F238 q → ¬ inA A209 q := fun q h1 h2 => by rcases hfr240 q h1 with h | h; exact (fun q h1 h2 => dis214 q h2 h1) q h h2; (have h4 := lt209 q h2; omega)
 have dis264 : ∀ q, F238 q → ¬ H47 q := fun q h1 h2 => by rcases hfr240 q h1 with h | h; exact (fun q h1 h2 => dis74 q h2 h1) q h h2; (have h4 := lt66 q h2; omega)
 have dis265 : ∀ q, F238 q → ¬ F48 q := fun q h1 h2 => by rcases hfr240 q h1 with h | h; exact (fun q h1 h2 => dis75 q h2 h1) q h h2; (have h4 := lt68 q h2; omega)
 have dis266 : ∀ q, F238 q → ¬ G49 q := fun q h1 h2 => by rcases hfr240 q h1 with h | h; exact (fun q h1 h2 => dis76 q h2 h1) q h h2; (have h4 := lt70 q h2; omega)
 have own268 : ∀ q, F241 q → w.heap.size ≤ q ∧ q ≠ b9 ∧ q ≠ b42 := fun q hq => by rcases hfr243 q hq with h | h; (have h1 := own36 q h; have h2 := lt37 q h; omega); omega
 have lt267 := Led.lt ho242
 have dis269 : ∀ q, F241 q → ¬ inA A3 q := fun q h1 h2 => by rcases hfr243 q h1 with h | h; exact (fun q h1 h2 => dis156 q h2 h1) q h h2; (have h4 := lt3 q h2; omega)
 have dis270 : ∀ q, F241 q → ¬ inA A4 q := fun q h1 h2 => by rcases hfr243 q h1 with h | h; exact (fun q h1 h2 => dis162 q h2 h1) q h h2; (have h4 := lt4 q h2; omega)
 have dis271 : ∀ q, F241 q → ¬ inA A209 q := fun q h1 h2 => by rcases hfr243 q h1 with h | h; exact (fun q h1 h2 => dis215 q h2 h1) q h h2; (have h4 := lt209 q h2; omega)
 have dis272 : ∀ q, F241 q → ¬ H47 q := fun q h1 h2 => by rcases hfr243 q h1 with h | h; exact (fun q h1 h2 => dis77 q h2 h1) q h h2; (have h4 := lt66 q h2; omega)
 have dis273 : ∀ q, F241 q → ¬ F48 q := fun q h1 h2 => by rcases hfr243 q h1 with h | h; exact (fun q h1 h2 => dis78 q h2 h1) q h h2; (have h4 := lt68 q h2; omega)
 have dis274 : ∀ q, F241 q → ¬ G49 q := fun q h1 h2 => by rcases hfr243 q h1 with h | h; exact (fun q h1 h2 => dis79 q h2 h1) q h h2; (have h4 := lt70 q h2; omega)
 have ltA234 := SlT.lt hA234
 have dis275 : ∀ q, inA A234 q → ¬ H47 q := fun q h1 h2 => by have h3 := ow234 q h1; have h4 := lt66 q h2; omega
 have dis276 : ∀ q, inA A234 q → ¬ F48 q := fun q h1 h2 => by have h3 := ow234 q h1; have h4 := lt68 q h2; omega
 have dis277 : ∀ q, inA A234 q → ¬ G49 q := fun q h1 h2 => by have h3 := ow234 q h1; have h4 := lt70 q h2; omega
 replace hA234 := SlT.ofE (xs := (doD actTs 1 3 (CA.mk 5 0 0 A209 cap209 (S ++ [CA.mk 5 0 0 A3 cap3 R])) (acQ [])).1) hA234 (show _ = ((S ++ R).map rowE) from by rw [hE])
 replace ho236 : Rfr F235 w232 r10 gg11 actTs ((doD actTs 1 3 (CA.mk 5 0 0 A209 cap209 (S ++ [CA.mk 5 0 0 A3 cap3 R])) (acQ [])).2.2).rs := ho236
 replace ho239 : VotT F238 w232 v12 (((doD actTs 1 3 (CA.mk 5 0 0 A209 cap209 (S ++ [CA.mk 5 0 0 A3 cap3 R])) (acQ [])).2.2).s) := ho239
 replace ho242 : Led F241 w232 l13 ((doD actTs 1 3 (CA.mk 5 0 0 A209 cap209 (S ++ [CA.mk 5 0 0 A3 cap3 R])) (acQ [])).2.2).xs ((doD actTs 1 3 (CA.mk 5 0 0 A209 cap209 (S ++ [CA.mk 5 0 0 A3 cap3 R])) (acQ [])).2.2).cs := ho242
 rw [hE] at ho236
 rw [hE] at ho239
 rw [hE] at ho242
 replace ho236 : Rfr F235 w232 r10 gg11 actTs (nesQ (S ++ R)).rs := ho236
 replace ho239 : VotT F238 w232 v12 ((nesQ (S ++ R)).s) := ho239
 replace ho242 : Led F241 w232 l13 (nesQ (S ++ R)).xs (nesQ (S ++ R)).cs := ho242
 refine Gp_ [(5, pt b9), (6, pt b42), (7, .slice A4 ((S ++ R).length) cap4), (115, .tuple #[.slice A234 (((doD actTs 1 3 (CA.mk 5 0 0 A209 cap209 (S ++ [CA.mk 5 0 0 A3 cap3 R])) (acQ [])).1).length) cap234, nt ((doD actTs 1 3 (CA.mk 5 0 0 A209 cap209 (S ++ [CA.mk 5 0 0 A3 cap3 R])) (acQ [])).2.1)])] <| Gq_ (u := .tuple #[.slice A234 (((doD actTs 1 3 (CA.mk 5 0 0 A209 cap209 (S ++ [CA.mk 5 0 0 A3 cap3 R])) (acQ [])).1).length) cap234, nt ((doD actTs 1 3 (CA.mk 5 0 0 A209 cap209 (S ++ [CA.mk 5 0 0 A3 cap3 R])) (acQ [])).2.1)]) (v := .tuple #[.slice A234 (((S ++ R).map rowE).length) cap234, nt 0]) 115 (by rw [show (doD actTs 1 3 (CA.mk 5 0 0 A209 cap209 (S ++ [CA.mk 5 0 0 A3 cap3 R])) (acQ [])).1 = ((S ++ R).map rowE) from by rw [hE]]; rw [hE] <;> rfl) <| Gn [] [5, 6, 7, 14, 15] <| GI_end <| X_then <| Vr <| On 1 [5, 6, 7, 14, 15, 16] <| Oe <| V_seq <| Vn [5, 6, 7, 14, 15, 16, 17] <| V_block <| Vp [(5, pt b9), (6, pt b42), (7, .slice A4 ((S ++ R).length) cap4), (14, .slice A234 (((S ++ R).map rowE).length) cap234), (15, nt 0), (16, .slice none 0 0), (17, nt 0)] <| V_loop (fun k wI e => ∃ i : Nat, ∃ Hz : Nat → Prop, ∃ Fz : Nat → Prop, ∃ Gz : Nat → Prop, ∃ A6 : Option Addr, ∃ cap6 : Nat, ∃ es : List Evt, (k + i = (S ++ R).length) ∧ (i ≤ (S ++ R).length) ∧ (es = ((S ++ R).take i).map rowE) ∧ (Rfr Hz wI r43 gg44 actTs (nesQ ((S ++ R).take i)).rs) ∧ (VotT Fz wI v45 (nesQ ((S ++ R).take i)).s) ∧ (Led Gz wI l46 (nesQ ((S ++ R).take i)).xs (nesQ ((S ++ R).take i)).cs) ∧ (∀ q, Hz q → H47 q ∨ w232.heap.size ≤ q) ∧ (∀ q, Fz q → F48 q ∨ w232.heap.size ≤ q) ∧ (∀ q, Gz q → G49 q ∨ w232.heap.size ≤ q) ∧ (∀ q, Hz q → ¬ Fz q) ∧ (∀ q, Hz q → ¬ Gz q) ∧ (∀ q, Fz q → ¬ Gz q) ∧ (SlT wI 3 Evt.cells A6 cap6 es) ∧ (∀ q, inA A6 q → w232.heap.size ≤ q) ∧ (∀ q, inA A6 q → ¬ Hz q) ∧ (∀ q, inA A6 q → ¬ Fz q) ∧ (∀ q, inA A6 q → ¬ Gz q) ∧ Keep (fun q => (only gg44) q ∨ F48 q ∨ G49 q) w232 wI ∧ e = [(5, pt b9), (6, pt b42), (7, .slice A4 ((S ++ R).length) cap4), (14, .slice A234 (((S ++ R).map rowE).length) cap234), (15, nt 0), (16, .slice A6 es.length cap6), (17, nt (i : Int))]) ((S ++ R).length) ⟨0, H47, F48, G49, none, 0, [], by omega, by omega, rfl, hR54, hV55, hL56, fun _ h => .inl h, fun _ h => .inl h, fun _ h => .inl h, dHF61, dHG62, dFG63, SlT.nil _ _ _, fun q h => (inA_none h).elim, fun q h => (inA_none h).elim, fun q h => (inA_none h).elim, fun q h => (inA_none h).elim, Keep.refl _ _, rfl⟩ ?_
 rintro k279 w278 _ ⟨i, Hz, Fz, Gz, A6, cap6, es, hki, hi7, hes, hRk, hVk, hLk, hHkr, hFkr, hGkr, dkHF, dkHG, dkFG, hA6, ow6, d6H, d6F, d6G, hk280, rfl⟩
 have hsz281 := Keep.size hk280
 replace hb20 := hb20.keep hk280 (fun hs => by rcases hs with hs | hs | hs; (have u9 : _ = gg44 := hs; have u0 := own65 _ (Rfr.atg hR54); have u1 := lt66 _ (Rfr.atg hR54); omega); (have u0 := own67 _ hs; have u1 := lt68 _ hs; omega); (have u0 := own69 _ hs; have u1 := lt70 _ hs; omega))
 replace hb53 := hb53.keep hk280 (fun hs => by rcases hs with hs | hs | hs; (have u9 : _ = gg44 := hs; have u0 := own65 _ (Rfr.atg hR54); have u1 := lt66 _ (Rfr.atg hR54); omega); (have u0 := own67 _ hs; have u1 := lt68 _ hs; omega); (have u0 := own69 _ hs; have u1 := lt70 _ hs; omega))
 replace hA4 := hA4.keep hk280 (fun q hq hs => by rcases hs with hs | hs | hs; exact dis163 q hq (by rw [show q = gg44 from hs]; exact (Rfr.atg hR54)); exact dis164 q hq hs; exact dis165 q hq hs)
 replace hA234 := hA234.keep hk280 (fun q hq hs => by rcases hs with hs | hs | hs; exact dis275 q hq (by rw [show q = gg44 from hs]; exact (Rfr.atg hR54)); exact dis276 q hq hs; exact dis277 q hq hs)
 replace hK0 := Keep.fresh hK0 hk280 (by intro i hi hs; first | exact hs | (rcases hs with hs | hs | hs; (have u9 : _ = gg44 := hs; have u0 := own65 _ (Rfr.atg hR54); have u1 := lt66 _ (Rfr.atg hR54); omega); (have u0 := own67 i hs; have u1 := lt68 i hs; omega); (have u0 := own69 i hs; have u1 := lt70 i hs; omega)))
 replace ho242 := ho242.keep hk280 (fun q hq hs => by rcases hs with hs | hs | hs; exact dis272 q hq (by rw [show q = gg44 from hs]; exact (Rfr.atg hR54)); exact dis273 q hq hs; exact dis274 q hq hs)
 have hzhk280 := Keep.size hk280
 have hHklt := Rfr.lt hRk
 have hHko : ∀ q, Hz q → w7.heap.size ≤ q ∧ q ≠ b9 ∧ q ≠ b42 := fun q hq => by rcases hHkr q hq with h | h; (have h1 := own65 q h; have h2 := lt66 q h; omega); omega
 have dis282 : ∀ q, Hz q → ¬ inA A3 q := fun q h1 h2 => by rcases hHkr q h1 with h | h; exact (fun q h1 h2 => dis157 q h2 h1) q h h2; (have h4 := lt3 q h2; omega)
 have dis283 : ∀ q, Hz q → ¬ inA A4 q := fun q h1 h2 => by rcases hHkr q h1 with h | h; exact (fun q h1 h2 => dis163 q h2 h1) q h h2; (have h4 := lt4 q h2; omega)
 have dis284 : ∀ q, Hz q → ¬ inA A209 q := fun q h1 h2 => by rcases hHkr q h1 with h | h; exact (fun q h1 h2 => dis216 q h2 h1) q h h2; (have h4 := lt209 q h2; omega)
 have dis285 : ∀ q, Hz q → ¬ inA A234 q := fun q h1 h2 => by rcases hHkr q h1 with h | h; exact (fun q h1 h2 => dis275 q h2 h1) q h h2; (have h4 := ltA234 q h2; omega)
 have dis286 : ∀ q, Hz q → ¬ F235 q := fun q h1 h2 => by rcases hHkr q h1 with h | h; exact (fun q h1 h2 => dis256 q h2 h1) q h h2; (have h4 := lt251 q h2; omega)
 have dis287 : ∀ q, Hz q → ¬ F238 q := fun q h1 h2 => by rcases hHkr q h1 with h | h; exact (fun q h1 h2 => dis264 q h2 h1) q h h2; (have h4 := lt259 q h2; omega)
 have dis288 : ∀ q, Hz q → ¬ F241 q := fun q h1 h2 => by rcases hHkr q h1 with h | h; exact (fun q h1 h2 => dis272 q h2 h1) q h h2; (have h4 := lt267 q h2; omega)
 have hFklt := VotT.lt hVk
 have hFko : ∀ q, Fz q → w7.heap.size ≤ q ∧ q ≠ b9 ∧ q ≠ b42 := fun q hq => by rcases hFkr q hq with h | h; (have h1 := own67 q h; have h2 := lt68 q h; omega); omega
 have dis289 : ∀ q, Fz q → ¬ inA A3 q := fun q h1 h2 => by rcases hFkr q h1 with h | h; exact (fun q h1 h2 => dis158 q h2 h1) q h h2; (have h4 := lt3 q h2; omega)
 have dis290 : ∀ q, Fz q → ¬ inA A4 q := fun q h1 h2 => by rcases hFkr q h1 with h | h; exact (fun q h1 h2 => dis164 q h2 h1) q h h2; (have h4 := lt4 q h2; omega)
 have dis291 : ∀ q, Fz q → ¬ inA A209 q := fun q h1 h2 => by rcases hFkr q h1 with h | h; exact (fun q h1 h2 => dis217 q h2 h1) q h h2; (have h4 := lt209 q h2; omega)
 have dis292 : ∀ q, Fz q → ¬ inA A234 q := fun q h1 h2 => by rcases hFkr q h1 with h | h; exact (fun q h1 h2 => dis276 q h2 h1) q h h2; (have h4 := ltA234 q h2; omega)
 have dis293 : ∀ q, Fz q → ¬ F235 q := fun q h1 h2 => by rcases hFkr q h1 with h | h; exact (fun q h1 h2 => dis257 q h2 h1) q h h2; (have h4 := lt251 q h2; omega)
 have dis294 : ∀ q, Fz q → ¬ F238 q := fun q h1 h2 => by rcases hFkr q h1 with h | h; exact (fun q h1 h2 => dis265 q h2 h1) q h h2; (have h4 := lt259 q h2; omega)
 have dis295 : ∀ q, Fz q → ¬ F241 q := fun q h1 h2 => by rcases hFkr q h1 with h | h; exact (fun q h1 h2 => dis273 q h2 h1) q h h2; (have h4 := lt267 q h2; omega)
 have hGklt := Led.lt hLk
 have hGko : ∀ q, Gz q → w7.heap.size ≤ q ∧ q ≠ b9 ∧ q ≠ b42 := fun q hq => by rcases hGkr q hq with h | h; (have h1 := own69 q h; have h2 := lt70 q h; omega); omega
 have dis296 : ∀ q, Gz q → ¬ inA A3 q := fun q h1 h2 => by rcases hGkr q h1 with h | h; exact (fun q h1 h2 => dis159 q h2 h1) q h h2; (have h4 := lt3 q h2; omega)
 have dis297 : ∀ q, Gz q → ¬ inA A4 q := fun q h1 h2 => by rcases hGkr q h1 with h | h; exact (fun q h1 h2 => dis165 q h2 h1) q h h2; (have h4 := lt4 q h2; omega)
 have dis298 : ∀ q, Gz q → ¬ inA A209 q := fun q h1 h2 => by rcases hGkr q h1 with h | h; exact (fun q h1 h2 => dis218 q h2 h1) q h h2; (have h4 := lt209 q h2; omega)
 have dis299 : ∀ q, Gz q → ¬ inA A234 q := fun q h1 h2 => by rcases hGkr q h1 with h | h; exact (fun q h1 h2 => dis277 q h2 h1) q h h2; (have h4 := ltA234 q h2; omega)
 have dis300 : ∀ q, Gz q → ¬ F235 q := fun q h1 h2 => by rcases hGkr q h1 with h | h; exact (fun q h1 h2 => dis258 q h2 h1) q h h2; (have h4 := lt251 q h2; omega)
 have dis301 : ∀ q, Gz q → ¬ F238 q := fun q h1 h2 => by rcases hGkr q h1 with h | h; exact (fun q h1 h2 => dis266 q h2 h1) q h h2; (have h4 := lt259 q h2; omega)
 have dis302 : ∀ q, Gz q → ¬ F241 q := fun q h1 h2 => by rcases hGkr q h1 with h | h; exact (fun q h1 h2 => dis274 q h2 h1) q h h2; (have h4 := lt267 q h2; omega)
 have lt6 := SlT.lt hA6
 have dis303 : ∀ q, inA A6 q → ¬ F235 q := fun q h1 h2 => by have h3 := ow6 q h1; have h4 := lt251 q h2; omega
 have dis304 : ∀ q, inA A6 q → ¬ F238 q := fun q h1 h2 => by have h3 := ow6 q h1; have h4 := lt259 q h2; omega
 have dis305 : ∀ q, inA A6 q → ¬ F241 q := fun q h1 h2 => by have h3 := ow6 q h1; have h4 := lt267 q h2; omega
 have dis306 : ∀ q, inA A6 q → ¬ inA A3 q := fun q h1 h2 => by have h3 := ow6 q h1; have h4 := lt3 q h2; omega
 have dis307 : ∀ q, inA A6 q → ¬ inA A4 q := fun q h1 h2 => by have h3 := ow6 q h1; have h4 := lt4 q h2; omega
 have dis308 : ∀ q, inA A6 q → ¬ inA A209 q := fun q h1 h2 => by have h3 := ow6 q h1; have h4 := lt209 q h2; omega
 have dis309 : ∀ q, inA A6 q → ¬ inA A234 q := fun q h1 h2 => by have h3 := ow6 q h1; have h4 := ltA234 q h2; omega
 have hel : es.length = i := by rw [hes, List.length_map, List.length_take]; omega
 refine V_seq <| Vs [(5, pt b9), (6, pt b42), (7, .slice A4 ((S ++ R).length) cap4), (14, .slice A234 (((S ++ R).map rowE).length) cap234), (15, nt 0), (16, .slice A6 es.length cap6), (17, nt (i : Int)), (121, .bool (decide ((i : Int) < (((S ++ R).length : Nat) : Int))))] <| Vi ((i : Int) < (((S ++ R).length : Nat) : Int)) (fun hc310 => ?_) (fun hc310 => ?_)
 ·
  refine Vsk <| V_seq <| V_block <| V_seq <| V_draws (acts [16]) none_ [[0, 1, 2, 3, 4, 5, 6, 7, 8, 9, 10, 11, 12, 13, 14, 15, 16, 17, 18, 19, 20, 21]] (by kernel_rfl) (by repeat first | exact (by first | exact sure_body (by rintro _ _ ⟨_, _, h, _⟩; exact ⟨_, h⟩) | exact sure_body (by rintro _ _ ⟨_, _, _, _, _, _, _, _, _, _, _, h, _⟩; exact ⟨_, h⟩) | exact sure_body (by rintro _ _ ⟨h, _⟩; exact ⟨_, h⟩)) | refine sure_then ?_ | refine sure_block ?_ | refine sure_join ?_) (by kernel_rfl) ?_
  intro w312 hk311 he313 L hL314
  have hsz315 := Keep.size hk311
  replace hb53 := hb53.k0 hk311
  replace hA4 := hA4.keep0 hk311
  replace hA6 := hA6.keep0 hk311
  replace hk280 := hk280.tn hk311
  replace hRk := hRk.keep hk311 nk
  replace hVk := hVk.keep hk311 nk
  replace hLk := hLk.keep hk311 nk
  have qhb53 := hb53
  have qhA4 := hA4
  have K316 : Keep none_ w312 w312 := Keep.refl _ _
  obtain rfl := List.mem_singleton.1 hL314
  refine Gn [3, 4, 5, 6, 7, 8, 9, 10, 11, 12, 13, 14, 15, 16, 17, 18, 19, 20, 21] [5, 6, 7, 14, 15, 16, 17, 127] <| Mr 0 (pt l46) qhb53 <| Gn [7, 8, 9, 10, 11, 12, 13, 14, 15, 16, 17, 18, 19, 20, 21] [5, 6, 7, 14, 15, 16, 17, 128, 131] <| Mr 1 (pt v45) qhb53 <| Gn [11, 12, 13, 14, 15, 16, 17, 18, 19, 20, 21] [5, 6, 7, 14, 15, 16, 17, 128, 132, 135] <| Mr 2 (pt r43) qhb53 <| Gs [14, 15, 16, 17, 18, 19, 20, 21] [(5, pt b9), (6, pt b42), (7, .slice A4 ((S ++ R).length) cap4), (14, .slice A234 (((S ++ R).map rowE).length) cap234), (15, nt 0), (16, .slice A6 es.length cap6), (17, nt (i : Int)), (128, pt l46), (132, pt v45), (136, pt r43), (137, .slice A4 ((S ++ R).length) cap4), (138, nt (i : Int))] ?_
  obtain ⟨b317, o317, L317, T317, rfl, hat317⟩ := SlT.open_ hA4 (by first | omega | (simp only [List.length_map]; omega) | (simp; done) | (simp; omega))
  have hb317lt := hat317.blk.lt
  have hob318 := ow4 b317 ⟨_, rfl, rfl⟩
  have hob319 := lt4 b317 ⟨_, rfl, rfl⟩
  have hne320 : ∀ q, inA A3 q → q ≠ b317 := fun q hq hs => d34 q hq ⟨_, rfl, hs⟩
  have own321 := fun q hq => And.intro (ow3 q hq) (hne320 q hq)
  have hne322 : ∀ q, inA A209 q → q ≠ b317 := fun q hq hs => dis212 q hq ⟨_, rfl, hs⟩
  have own323 := fun q hq => And.intro (own209 q hq) (hne322 q hq)
  have hne324 : ∀ q, inA A6 q → q ≠ b317 := fun q hq hs => dis307 q hq ⟨_, rfl, hs⟩
  have own325 := fun q hq => And.intro (ow6 q hq) (hne324 q hq)
  have hne326 : ∀ q, F235 q → q ≠ b317 := fun q hq hs => dis254 q hq ⟨_, rfl, hs⟩
  have own327 := fun q hq => And.intro (own252 q hq) (hne326 q hq)
  have hne328 : ∀ q, F238 q → q ≠ b317 := fun q hq hs => dis262 q hq ⟨_, rfl, hs⟩
  have own329 := fun q hq => And.intro (own260 q hq) (hne328 q hq)
  have hne330 : ∀ q, F241 q → q ≠ b317 := fun q hq hs => dis270 q hq ⟨_, rfl, hs⟩
  have own331 := fun q hq => And.intro (own268 q hq) (hne330 q hq)
  have hne332 : ∀ q, Hz q → q ≠ b317 := fun q hq hs => dis283 q hq ⟨_, rfl, hs⟩
  have own333 := fun q hq => And.intro (hHko q hq) (hne332 q hq)
  have hne334 : ∀ q, Fz q → q ≠ b317 := fun q hq hs => dis290 q hq ⟨_, rfl, hs⟩
  have own335 := fun q hq => And.intro (hFko q hq) (hne334 q hq)
  have hne336 : ∀ q, Gz q → q ≠ b317 := fun q hq hs => dis297 q hq ⟨_, rfl, hs⟩
  have own337 := fun q hq => And.intro (hGko q hq) (hne336 q hq)
  obtain ⟨qL317, qT317, qhat317⟩ := SlT.openA qhA4 (by first | omega | (simp; done) | (simp; omega))
  refine GI_pure (some 139) (.indexAddr 24 (.tmp 137) (.tmp 138)) (by kernel_rfl) (by kernel_rfl) (pure_idxN (b := b317) (o := o317) (len := (S ++ R).length) (cap := cap4) (kd := .i64) (j := i) (E := 26) (sz := 4) (by_ := 48) (by kernel_rfl) (by kernel_rfl) (by kernel_rfl) (by omega)) ?_
  obtain ⟨x338, hx339⟩ : ∃ x, (S ++ R)[i]? = some x := ⟨_, List.getElem?_eq_getElem (by first | omega | (simp only [List.length_map]; omega))⟩
  refine Ga 26 (.tmp 139) (o317 + i * 4) (CA.cells x338) (some 140) 4 qhat317.blk id (At.elem' qhat317 (es_at hx339)) (At.len qhat317 (es_at hx339)) ?_
  have hEx338 := row_law hlf (by omega) hx339
  refine Gk0 (kl 10 #[(.tmp 128), (.tmp 132), (.tmp 136), (.tmp 140), (.const (nt 1)), (.const (nt 3))] #[31, 32, 33, 26, 3, 3]) 10 #[pt l46, pt v45, pt r43, .agg (CA.cells x338).toArray, nt 1, nt 3] (some 141) (do_spec none_ x338 r43 gg44 actTs v45 l46 1 3 Hz Fz Gz (nesQ ((S ++ R).take i)) _ (LfN_rep (hlf x338 (List.mem_of_getElem? hx339))) hRk hVk hLk dkHF dkHG dkFG (fun q h => h.elim)) ?_
  rintro _ w342 ⟨A344, cap344, rfl, hA344, ow344, ⟨F345, F348, F351, ho346, ho349, ho352, hfr347, hfr350, hfr353, hdis354, hdis355, hdis356, dA357, dA358, dA359⟩, hk343⟩
  refine ⟨_, rfl, ?_⟩
  have hsz360 := Keep.size hk343
  replace hA6 := hA6.keep hk343 (fun q hq hs => by rcases hs with hs | hs | hs; exact d6H q hq (by rw [show q = gg44 from hs]; exact (Rfr.atg hRk)); exact d6F q hq hs; exact d6G q hq hs)
  replace hk280 := Keep.fresh hk280 hk343 (fun i hi hs => by rcases hs with hs | hs | hs; exact .inl hs; (rcases hFkr i hs with h | h; exact .inr (.inl h); (exfalso; omega)); (rcases hGkr i hs with h | h; exact .inr (.inr h); (exfalso; omega)))
  have own362 : ∀ q, F345 q → w7.heap.size ≤ q ∧ q ≠ b9 ∧ q ≠ b42 := fun q hq => by rcases hfr347 q hq with h | h; (have h1 := own333 q h; have h2 := hHklt q h; omega); omega
  have lt361 := Rfr.lt ho346
  have dis363 : ∀ q, F345 q → ¬ inA A234 q := fun q h1 h2 => by rcases hfr347 q h1 with h | h; exact dis285 q h h2; (have h4 := ltA234 q h2; omega)
  have dis364 : ∀ q, F345 q → ¬ inA A6 q := fun q h1 h2 => by rcases hfr347 q h1 with h | h; exact (fun q h1 h2 => d6H q h2 h1) q h h2; (have h4 := lt6 q h2; omega)
  have dis365 : ∀ q, F345 q → ¬ F235 q := fun q h1 h2 => by rcases hfr347 q h1 with h | h; exact dis286 q h h2; (have h4 := lt251 q h2; omega)
  have dis366 : ∀ q, F345 q → ¬ F238 q := fun q h1 h2 => by rcases hfr347 q h1 with h | h; exact dis287 q h h2; (have h4 := lt259 q h2; omega)
  have dis367 : ∀ q, F345 q → ¬ F241 q := fun q h1 h2 => by rcases hfr347 q h1 with h | h; exact dis288 q h h2; (have h4 := lt267 q h2; omega)
  have own369 : ∀ q, F348 q → w7.heap.size ≤ q ∧ q ≠ b9 ∧ q ≠ b42 := fun q hq => by rcases hfr350 q hq with h | h; (have h1 := own335 q h; have h2 := hFklt q h; omega); omega
  have lt368 := VotT.lt ho349
  have dis370 : ∀ q, F348 q → ¬ inA A234 q := fun q h1 h2 => by rcases hfr350 q h1 with h | h; exact dis292 q h h2; (have h4 := ltA234 q h2; omega)
  have dis371 : ∀ q, F348 q → ¬ inA A6 q := fun q h1 h2 => by rcases hfr350 q h1 with h | h; exact (fun q h1 h2 => d6F q h2 h1) q h h2; (have h4 := lt6 q h2; omega)
  have dis372 : ∀ q, F348 q → ¬ F235 q := fun q h1 h2 => by rcases hfr350 q h1 with h | h; exact dis293 q h h2; (have h4 := lt251 q h2; omega)
  have dis373 : ∀ q, F348 q → ¬ F238 q := fun q h1 h2 => by rcases hfr350 q h1 with h | h; exact dis294 q h h2; (have h4 := lt259 q h2; omega)
  have dis374 : ∀ q, F348 q → ¬ F241 q := fun q h1 h2 => by rcases hfr350 q h1 with h | h; exact dis295 q h h2; (have h4 := lt267 q h2; omega)
  have own376 : ∀ q, F351 q → w7.heap.size ≤ q ∧ q ≠ b9 ∧ q ≠ b42 := fun q hq => by rcases hfr353 q hq with h | h; (have h1 := own337 q h; have h2 := hGklt q h; omega); omega
  have lt375 := Led.lt ho352
  have dis377 : ∀ q, F351 q → ¬ inA A234 q := fun q h1 h2 => by rcases hfr353 q h1 with h | h; exact dis299 q h h2; (have h4 := ltA234 q h2; omega)
  have dis378 : ∀ q, F351 q → ¬ inA A6 q := fun q h1 h2 => by rcases hfr353 q h1 with h | h; exact (fun q h1 h2 => d6G q h2 h1) q h h2; (have h4 := lt6 q h2; omega)
  have dis379 : ∀ q, F351 q → ¬ F235 q := fun q h1 h2 => by rcases hfr353 q h1 with h | h; exact dis300 q h h2; (have h4 := lt251 q h2; omega)
  have dis380 : ∀ q, F351 q → ¬ F238 q := fun q h1 h2 => by rcases hfr353 q h1 with h | h; exact dis301 q h h2; (have h4 := lt259 q h2; omega)
  have dis381 : ∀ q, F351 q → ¬ F241 q := fun q h1 h2 => by rcases hfr353 q h1 with h | h; exact dis302 q h h2; (have h4 := lt267 q h2; omega)
  have ltA344 := SlT.lt hA344
  have dis382 : ∀ q, inA A344 q → ¬ F235 q := fun q h1 h2 => by have h3 := ow344 q h1; have h4 := lt251 q h2; omega
  have dis383 : ∀ q, inA A344 q → ¬ F238 q := fun q h1 h2 => by have h3 := ow344 q h1; have h4 := lt259 q h2; omega
  have dis384 : ∀ q, inA A344 q → ¬ F241 q := fun q h1 h2 => by have h3 := ow344 q h1; have h4 := lt267 q h2; omega
  replace hA344 := SlT.ofE (xs := (doD actTs 1 3 x338 (nesQ ((S ++ R).take i))).1) hA344 (show _ = [rowE x338] from by rw [hEx338])
  replace ho346 : Rfr F345 w342 r43 gg44 actTs ((doD actTs 1 3 x338 (nesQ ((S ++ R).take i))).2.2).rs := ho346
  replace ho349 : VotT F348 w342 v45 (((doD actTs 1 3 x338 (nesQ ((S ++ R).take i))).2.2).s) := ho349
  replace ho352 : Led F351 w342 l46 ((doD actTs 1 3 x338 (nesQ ((S ++ R).take i))).2.2).xs ((doD actTs 1 3 x338 (nesQ ((S ++ R).take i))).2.2).cs := ho352
  rw [hEx338] at ho346
  rw [hEx338] at ho349
  rw [hEx338] at ho352
  replace ho346 : Rfr F345 w342 r43 gg44 actTs (nesQ ((S ++ R).take (i + 1))).rs := ho346
  replace ho349 : VotT F348 w342 v45 ((nesQ ((S ++ R).take (i + 1))).s) := ho349
  replace ho352 : Led F351 w342 l46 (nesQ ((S ++ R).take (i + 1))).xs (nesQ ((S ++ R).take (i + 1))).cs := ho352
  refine Gp_ [(5, pt b9), (6, pt b42), (7, sl_ b317 o317 ((S ++ R).length) cap4), (14, .slice A234 (((S ++ R).map rowE).length) cap234), (15, nt 0), (16, .slice A6 es.length cap6), (17, nt (i : Int)), (141, .tuple #[.slice A344 (((doD actTs 1 3 x338 (nesQ ((S ++ R).take i))).1).length) cap344, nt ((doD actTs 1 3 x338 (nesQ ((S ++ R).take i))).2.1)])] <| Gq_ (u := .tuple #[.slice A344 (((doD actTs 1 3 x338 (nesQ ((S ++ R).take i))).1).length) cap344, nt ((doD actTs 1 3 x338 (nesQ ((S ++ R).take i))).2.1)]) (v := .tuple #[.slice A344 ([rowE x338].length) cap344, nt 0]) 141 (by rw [show (doD actTs 1 3 x338 (nesQ ((S ++ R).take i))).1 = [rowE x338] from by rw [hEx338]]; rw [hEx338] <;> rfl) <| Gn [] [5, 6, 7, 14, 15, 16, 17, 18, 19] <| GI_end <| X_then <| V_seq <| Vn [5, 6, 7, 14, 15, 16, 17, 18, 145] <| Vf <| Vsk <| V_region <| On 2 [5, 6, 7, 14, 15, 17, 146, 147] ?_
  have hl385 : [rowE x338].length = [rowE x338].length := rfl
  have hy385 := SlT.slr hA344
  refine OI_append (t := 27) (at2 := 27) (E := 52) (E2 := 52) (sz := 3) (by_ := 24) (zv := .agg #[nt 0, nt 0, nt 0]) (m := es.length) (k := [rowE x338].length) (.tmp 146) (.tmp 147) (.slice A6 es.length cap6) (.slice A344 ([rowE x338].length) cap344) (some 148) (by kernel_rfl) (by kernel_rfl) (by kernel_rfl) (by kernel_rfl) (by kernel_rfl) (by kernel_rfl) (by kernel_rfl) (SlT.slr hA6) hy385 (fun u hu => by obtain ⟨z, _, hz⟩ := List.mem_flatMap.1 hu; exact Evt.one z u hz) (by first | omega | ((repeat first | rw [List.length_append] | rw [List.length_cons] | rw [List.length_nil] | rw [List.length_take] | rw [List.length_drop]) <;> omega)) (by omega) (by first | omega | ((repeat first | rw [List.length_append] | rw [List.length_cons] | rw [List.length_nil] | rw [List.length_take] | rw [List.length_drop]) <;> omega)) (by omega) ?_
  intro vv9 w385 hap
  obtain ⟨A385, cap385, rfl, hA385, hk385, own385x⟩ := app_many (f := Evt.cells) (xs := es) (ys := [rowE x338]) (A := A6) (cap := cap6) hap hl385 Evt.len
  have own385 : ∀ q, inA A385 q → w232.heap.size ≤ q := fun q hq => by rcases own385x q hq with h | h; (have h8 := own325 q h; have h9 := lt6 q h; show w232.heap.size ≤ q; omega); (show w232.heap.size ≤ q; omega)
  have hsz386 := Keep.size hk385
  replace hk280 := Keep.fresh hk280 hk385 (by intro i hi hs; first | exact hs | (exfalso; have h1 := own325 i hs; have h2 := lt6 i hs; omega) | (have h1 := own325 i hs; have h2 := lt6 i hs; show _ ∨ _; omega))
  replace ho346 := ho346.keep hk385 (fun q hq hs => (fun q h1 h2 => dis364 q h2 h1) q hs hq)
  replace ho349 := ho349.keep hk385 (fun q hq hs => (fun q h1 h2 => dis371 q h2 h1) q hs hq)
  replace ho352 := ho352.keep hk385 (fun q hq hs => (fun q h1 h2 => dis378 q h2 h1) q hs hq)
  have lt385 := SlT.lt hA385
  have hcap385 := SlT.cap_le hA385
  have dis387 : ∀ q, inA A385 q → ¬ inA A234 q := fun q h1 h2 => by rcases own385x q h1 with h | h; exact dis309 q h h2; (have h4 := ltA234 q h2; omega)
  have dis388 : ∀ q, inA A385 q → ¬ F235 q := fun q h1 h2 => by rcases own385x q h1 with h | h; exact dis303 q h h2; (have h4 := lt251 q h2; omega)
  have dis389 : ∀ q, inA A385 q → ¬ F238 q := fun q h1 h2 => by rcases own385x q h1 with h | h; exact dis304 q h h2; (have h4 := lt259 q h2; omega)
  have dis390 : ∀ q, inA A385 q → ¬ F241 q := fun q h1 h2 => by rcases own385x q h1 with h | h; exact dis305 q h h2; (have h4 := lt267 q h2; omega)
  have dis391 : ∀ q, inA A385 q → ¬ F345 q := fun q h1 h2 => by rcases own385x q h1 with h | h; exact (fun q h1 h2 => dis364 q h2 h1) q h h2; (have h4 := lt361 q h2; omega)
  have dis392 : ∀ q, inA A385 q → ¬ F348 q := fun q h1 h2 => by rcases own385x q h1 with h | h; exact (fun q h1 h2 => dis371 q h2 h1) q h h2; (have h4 := lt368 q h2; omega)
  have dis393 : ∀ q, inA A385 q → ¬ F351 q := fun q h1 h2 => by rcases own385x q h1 with h | h; exact (fun q h1 h2 => dis378 q h2 h1) q h h2; (have h4 := lt375 q h2; omega)
  refine On 4 [5, 6, 7, 14, 15, 16, 17] <| OI_end rfl <| X_block <| X_then <| V_region ?_
  have hw394 : IntKind.i64.wrap ((i : Int) + 1) = ((i + 1 : Nat) : Int) := (wrap64_id (by omega) (by omega)).trans (by omega)
  refine On 2 [5, 6, 7, 14, 15, 16, 123] <| Oq (u := nt (IntKind.i64.wrap ((i : Int) + 1))) (v := nt ((i + 1 : Nat) : Int)) 123 (by rw [hw394]) <| Os 3 [(5, pt b9), (6, pt b42), (7, sl_ b317 o317 ((S ++ R).length) cap4), (14, .slice A234 (((S ++ R).map rowE).length) cap234), (15, nt 0), (16, .slice A385 ((es ++ [rowE x338]).length) cap385), (17, nt ((i + 1 : Nat) : Int))] <| OI_end rfl ?_
  obtain ⟨hts, htl⟩ := take_ca hx339
  exact V_again (k279 - 1) (by omega) [(5, pt b9), (6, pt b42), (7, sl_ b317 o317 ((S ++ R).length) cap4), (14, .slice A234 (((S ++ R).map rowE).length) cap234), (15, nt 0), (16, .slice A385 ((es ++ [rowE x338]).length) cap385), (17, nt ((i + 1 : Nat) : Int))] rfl ⟨i + 1, F345, F348, F351, A385, cap385, (es ++ [rowE x338]), by omega, by omega, by rw [hts, List.map_append, ← hes]; rfl, ho346, ho349, ho352, (fun q hq => by rcases hfr347 q hq with h | h; exact hHkr q h; exact .inr (by omega)), (fun q hq => by rcases hfr350 q hq with h | h; exact hFkr q h; exact .inr (by omega)), (fun q hq => by rcases hfr353 q hq with h | h; exact hGkr q h; exact .inr (by omega)), hdis354, hdis355, hdis356, hA385, own385, dis391, dis392, dis393, hk280, rfl⟩
 have hie : i = (S ++ R).length := by omega
 rw [hie, List.take_length] at hes hRk hVk hLk
 replace hRk : Rfr Hz w278 r43 gg44 actTs (nesQ (S ++ R)).rs := hRk
 replace hVk : VotT Fz w278 v45 ((nesQ (S ++ R)).s) := hVk
 replace hLk : Led Gz w278 l46 (nesQ (S ++ R)).xs (nesQ (S ++ R)).cs := hLk
 have hA6b := hA6; rw [hes] at hA6b
 refine V_eq [(5, pt b9), (6, pt b42), (7, .slice A4 ((S ++ R).length) cap4), (14, .slice A234 (((S ++ R).map rowE).length) cap234), (15, nt 0), (16, .slice A6 (((S ++ R).map rowE).length) cap6), (17, nt (i : Int)), (121, .bool (decide ((i : Int) < (((S ++ R).length : Nat) : Int))))] (by rw [hes]) <| V_exit <| X_exit_then <| X_exit_then <| X_exit_here <| X_then <| V_seq <| Vn [5, 6, 14, 16, 157] <| Vq (u := .bool (!(decide (((((S ++ R).map rowE).length : Nat) : Int) = ((((S ++ R).map rowE).length : Nat) : Int))))) (v := .bool false) 157 (by rw [decide_eq_true (rfl : ((((S ++ R).map rowE).length : Nat) : Int) = ((((S ++ R).map rowE).length : Nat) : Int))]; rfl) <| Vf <| Vsk <| V_seq <| Vn [5, 6, 14, 16, 20] <| V_block <| Vp [(5, pt b9), (6, pt b42), (14, .slice A234 (((S ++ R).map rowE).length) cap234), (16, .slice A6 (((S ++ R).map rowE).length) cap6), (20, nt 0)] <| V_loop (fun k wI e => ∃ i : Nat, (k + i = ((S ++ R).map rowE).length) ∧ Keep none_ w278 wI ∧ e = [(5, pt b9), (6, pt b42), (14, .slice A234 (((S ++ R).map rowE).length) cap234), (16, .slice A6 (((S ++ R).map rowE).length) cap6), (20, nt (i : Int))]) (((S ++ R).map rowE).length) ⟨0, by omega, Keep.refl _ _, rfl⟩ ?_
 rintro k397 w396 _ ⟨i, hki, hk398, rfl⟩
 have hsz399 := Keep.size hk398
 replace hb20 := hb20.k0 hk398
 replace hb53 := hb53.k0 hk398
 replace hA234 := hA234.keep0 hk398
 replace hA6b := hA6b.keep0 hk398
 replace hK0 := hK0.tn hk398
 replace ho242 := ho242.keep hk398 nk
 replace hLk := hLk.keep hk398 nk
 have hzhk398 := Keep.size hk398
 have hml9 : ((S ++ R).map rowE).length ≤ 7 := by rw [List.length_map]; omega
 refine V_seq <| Vn [5, 6, 14, 16, 20, 161] <| Vi ((i : Int) < ((((S ++ R).map rowE).length : Nat) : Int)) (fun hc400 => ?_) (fun hc400 => ?_)
 ·
  refine Vsk <| V_seq <| V_block <| V_seq <| V_draws (acts []) none_ [[0, 1, 2, 3, 4, 5, 6, 7, 8]] (by kernel_rfl) (by repeat first | exact (by first | exact sure_body (by rintro _ _ ⟨_, _, h, _⟩; exact ⟨_, h⟩) | exact sure_body (by rintro _ _ ⟨_, _, _, _, _, _, _, _, _, _, _, h, _⟩; exact ⟨_, h⟩) | exact sure_body (by rintro _ _ ⟨h, _⟩; exact ⟨_, h⟩)) | refine sure_then ?_ | refine sure_block ?_ | refine sure_join ?_) (by kernel_rfl) ?_
  intro w402 hk401 he403 L hL404
  have hsz405 := Keep.size hk401
  replace hA234 := hA234.keep0 hk401
  replace hA6b := hA6b.keep0 hk401
  replace hk398 := hk398.tn hk401
  have qhA234 := hA234
  have qhA6b := hA6b
  have K406 : Keep none_ w402 w402 := Keep.refl _ _
  obtain rfl := List.mem_singleton.1 hL404
  refine Gn [2, 3, 4, 5, 6, 7, 8] [5, 6, 14, 16, 20, 164, 165] ?_
  obtain ⟨b407, o407, L407, T407, rfl, hat407⟩ := SlT.open_ hA234 (by first | omega | (simp only [List.length_map]; omega) | (simp; done) | (simp; omega))
  have hb407lt := hat407.blk.lt
  have hob408 := ow234 b407 ⟨_, rfl, rfl⟩
  have hob409 := ltA234 b407 ⟨_, rfl, rfl⟩
  have hne410 : ∀ q, inA A6 q → q ≠ b407 := fun q hq hs => dis309 q hq ⟨_, rfl, hs⟩
  have own411 := fun q hq => And.intro (ow6 q hq) (hne410 q hq)
  have hne412 : ∀ q, F235 q → q ≠ b407 := fun q hq hs => (fun q h1 h2 => dA247 q h2 h1) q hq ⟨_, rfl, hs⟩
  have own413 := fun q hq => And.intro (own252 q hq) (hne412 q hq)
  have hne414 : ∀ q, F238 q → q ≠ b407 := fun q hq hs => (fun q h1 h2 => dA248 q h2 h1) q hq ⟨_, rfl, hs⟩
  have own415 := fun q hq => And.intro (own260 q hq) (hne414 q hq)
  have hne416 : ∀ q, F241 q → q ≠ b407 := fun q hq hs => (fun q h1 h2 => dA249 q h2 h1) q hq ⟨_, rfl, hs⟩
  have own417 := fun q hq => And.intro (own268 q hq) (hne416 q hq)
  have hne418 : ∀ q, Hz q → q ≠ b407 := fun q hq hs => dis285 q hq ⟨_, rfl, hs⟩
  have own419 := fun q hq => And.intro (hHko q hq) (hne418 q hq)
  have hne420 : ∀ q, Fz q → q ≠ b407 := fun q hq hs => dis292 q hq ⟨_, rfl, hs⟩
  have own421 := fun q hq => And.intro (hFko q hq) (hne420 q hq)
  have hne422 : ∀ q, Gz q → q ≠ b407 := fun q hq hs => dis299 q hq ⟨_, rfl, hs⟩
  have own423 := fun q hq => And.intro (hGko q hq) (hne422 q hq)
  obtain ⟨qL407, qT407, qhat407⟩ := SlT.openA qhA234 (by first | omega | (simp; done) | (simp; omega))
  refine GI_pure (some 166) (.indexAddr 27 (.tmp 164) (.tmp 165)) (by kernel_rfl) (by kernel_rfl) (pure_idxN (b := b407) (o := o407) (len := ((S ++ R).map rowE).length) (cap := cap234) (kd := .i64) (j := i) (E := 52) (sz := 3) (by_ := 24) (by kernel_rfl) (by kernel_rfl) (by kernel_rfl) (by omega)) ?_
  obtain ⟨x424, hx425⟩ : ∃ x, ((S ++ R).map rowE)[i]? = some x := ⟨_, List.getElem?_eq_getElem (by first | omega | (simp only [List.length_map]; omega))⟩
  refine Ma (o407 + i * 3) (Evt.cells x424) 3 qhat407.blk id (At.elem' qhat407 (es_at hx425)) (At.len qhat407 (es_at hx425)) <| Gn [6, 7, 8] [5, 6, 14, 16, 20, 167, 168, 169] ?_
  obtain ⟨b426, o426, L426, T426, rfl, hat426⟩ := SlT.open_ hA6b (by first | omega | (simp only [List.length_map]; omega) | (simp; done) | (simp; omega))
  have hb426lt := hat426.blk.lt
  have hob427 := own411 b426 ⟨_, rfl, rfl⟩
  have hob428 := lt6 b426 ⟨_, rfl, rfl⟩
  have hne429 : ∀ q, inA A3 q → q ≠ b426 := fun q hq hs => (fun q h1 h2 => dis306 q h2 h1) q hq ⟨_, rfl, hs⟩
  have own430 := fun q hq => And.intro (ow3 q hq) (hne429 q hq)
  have hne431 : ∀ q, inA A4 q → q ≠ b426 := fun q hq hs => (fun q h1 h2 => dis307 q h2 h1) q hq ⟨_, rfl, hs⟩
  have own432 := fun q hq => And.intro (ow4 q hq) (hne431 q hq)
  have hne433 : ∀ q, inA A209 q → q ≠ b426 := fun q hq hs => (fun q h1 h2 => dis308 q h2 h1) q hq ⟨_, rfl, hs⟩
  have own434 := fun q hq => And.intro (own209 q hq) (hne433 q hq)
  have hne435 : ∀ q, F235 q → q ≠ b426 := fun q hq hs => (fun q h1 h2 => dis303 q h2 h1) q hq ⟨_, rfl, hs⟩
  have own436 := fun q hq => And.intro (own413 q hq) (hne435 q hq)
  have hne437 : ∀ q, F238 q → q ≠ b426 := fun q hq hs => (fun q h1 h2 => dis304 q h2 h1) q hq ⟨_, rfl, hs⟩
  have own438 := fun q hq => And.intro (own415 q hq) (hne437 q hq)
  have hne439 : ∀ q, F241 q → q ≠ b426 := fun q hq hs => (fun q h1 h2 => dis305 q h2 h1) q hq ⟨_, rfl, hs⟩
  have own440 := fun q hq => And.intro (own417 q hq) (hne439 q hq)
  have hne441 : ∀ q, Hz q → q ≠ b426 := fun q hq hs => (fun q h1 h2 => d6H q h2 h1) q hq ⟨_, rfl, hs⟩
  have own442 := fun q hq => And.intro (own419 q hq) (hne441 q hq)
  have hne443 : ∀ q, Fz q → q ≠ b426 := fun q hq hs => (fun q h1 h2 => d6F q h2 h1) q hq ⟨_, rfl, hs⟩
  have own444 := fun q hq => And.intro (own421 q hq) (hne443 q hq)
  have hne445 : ∀ q, Gz q → q ≠ b426 := fun q hq hs => (fun q h1 h2 => d6G q h2 h1) q hq ⟨_, rfl, hs⟩
  have own446 := fun q hq => And.intro (own423 q hq) (hne445 q hq)
  obtain ⟨qL426, qT426, qhat426⟩ := SlT.openA qhA6b (by first | omega | (simp; done) | (simp; omega))
  refine GI_pure (some 170) (.indexAddr 27 (.tmp 168) (.tmp 169)) (by kernel_rfl) (by kernel_rfl) (pure_idxN (b := b426) (o := o426) (len := ((S ++ R).map rowE).length) (cap := cap6) (kd := .i64) (j := i) (E := 52) (sz := 3) (by_ := 24) (by kernel_rfl) (by kernel_rfl) (by kernel_rfl) (by omega)) <| Ma (o426 + i * 3) (Evt.cells x424) 3 qhat426.blk id (At.elem' qhat426 (es_at hx425)) (At.len qhat426 (es_at hx425)) <| GI_pure (some 172) ((Op.binOp BinOp.neq 52 (Operand.tmp 167) (Operand.tmp 171) 52)) (by kernel_rfl) (by kernel_rfl) (pure_neq_same (xs := Evt.cells x424) (by kernel_rfl) (by kernel_rfl) (by kernel_rfl) (by kernel_rfl)) <| GI_end <| X_then <| Vf <| V_skip <| X_block <| X_then <| V_region ?_
  have hw447 : IntKind.i64.wrap ((i : Int) + 1) = ((i + 1 : Nat) : Int) := (wrap64_id (by omega) (by omega)).trans (by omega)
  refine On 2 [5, 6, 14, 16, 163] <| Oq (u := nt (IntKind.i64.wrap ((i : Int) + 1))) (v := nt ((i + 1 : Nat) : Int)) 163 (by rw [hw447]) <| Os 3 [(5, pt b9), (6, pt b42), (14, sl_ b407 o407 (((S ++ R).map rowE).length) cap234), (16, sl_ b426 o426 (((S ++ R).map rowE).length) cap6), (20, nt ((i + 1 : Nat) : Int))] <| OI_end rfl ?_
  exact V_again (k397 - 1) (by omega) [(5, pt b9), (6, pt b42), (14, sl_ b407 o407 (((S ++ R).map rowE).length) cap234), (16, sl_ b426 o426 (((S ++ R).map rowE).length) cap6), (20, nt ((i + 1 : Nat) : Int))] rfl ⟨i + 1, by omega, hk398, rfl⟩
 refine V_exit <| X_exit_then <| X_exit_then <| X_exit_here <| X_then <| V_seq <| V_draws (acts [4, 9, 16, 21, 25]) none_ [[0, 1, 2, 3, 4, 5, 6, 7, 8, 9, 10, 11, 12, 13, 14, 15, 16, 17, 18, 19, 20, 21, 22, 23, 24, 25, 26, 27]] (by kernel_rfl) (by repeat first | exact (by first | exact sure_body (by rintro _ _ ⟨_, _, h, _⟩; exact ⟨_, h⟩) | exact sure_body (by rintro _ _ ⟨_, _, _, _, _, _, _, _, _, _, _, h, _⟩; exact ⟨_, h⟩) | exact sure_body (by rintro _ _ ⟨h, _⟩; exact ⟨_, h⟩)) | refine sure_then ?_ | refine sure_block ?_ | refine sure_join ?_) (by kernel_rfl) ?_
 intro w449 hk448 he450 L hL451
 have hsz452 := Keep.size hk448
 replace hb20 := hb20.k0 hk448
 replace hb53 := hb53.k0 hk448
 replace hK0 := hK0.tn hk448
 replace ho242 := ho242.keep hk448 nk
 replace hLk := hLk.keep hk448 nk
 have qhb20 := hb20
 have qhb53 := hb53
 have K453 : Keep none_ w449 w449 := Keep.refl _ _
 obtain rfl := List.mem_singleton.1 hL451
 refine Gn [3, 4, 5, 6, 7, 8, 9, 10, 11, 12, 13, 14, 15, 16, 17, 18, 19, 20, 21, 22, 23, 24, 25, 26, 27] [5, 6, 175] <| Mr 0 (pt l13) qhb20 <| Hg (free_spec F241 l13 (nesQ (S ++ R)).xs (nesQ (S ++ R)).cs 1 _ ho242) ?_
 rintro _ w454 ⟨rfl, hk455⟩
 have K456 := K453.tr (Keep.ofNone hk455)
 refine ⟨_, rfl, K456, ?_⟩
 have hzK456 := Keep.size K456
 have hsz457 := Keep.size hk455
 replace hK0 := hK0.tn hk455
 replace ho242 := ho242.keep hk455 nk
 replace hLk := hLk.keep hk455 nk
 refine Gn [8, 9, 10, 11, 12, 13, 14, 15, 16, 17, 18, 19, 20, 21, 22, 23, 24, 25, 26, 27] [5, 6, 177, 180] <| Mr 0 (pt l46) qhb53 <| Hg (free_spec Gz l46 (nesQ (S ++ R)).xs (nesQ (S ++ R)).cs 1 _ hLk) ?_
 rintro _ w458 ⟨rfl, hk459⟩
 have K460 := K456.tr (Keep.ofNone hk459)
 refine ⟨_, rfl, K460, ?_⟩
 have hzK460 := Keep.size K460
 have hsz461 := Keep.size hk459
 replace hK0 := hK0.tn hk459
 replace ho242 := ho242.keep hk459 nk
 replace hLk := hLk.keep hk459 nk
 refine Gn [12, 13, 14, 15, 16, 17, 18, 19, 20, 21, 22, 23, 24, 25, 26, 27] [5, 6, 184] <| Gq_ (u := .bool (decide ((acct (nesQ (S ++ R)).xs 1).free = (acct (nesQ (S ++ R)).xs 1).free))) (v := .bool true) 184 (by rw [decide_eq_true (rfl : (acct (nesQ (S ++ R)).xs 1).free = (acct (nesQ (S ++ R)).xs 1).free)]) <| Gn [15, 16, 17, 18, 19, 20, 21, 22, 23, 24, 25, 26, 27] [6, 184, 187] <| Mr 0 (pt l13) qhb20 <| Hg (free_spec F241 l13 (nesQ (S ++ R)).xs (nesQ (S ++ R)).cs 0 _ ho242) ?_
 rintro _ w463 ⟨rfl, hk464⟩
 have K465 := K460.tr (Keep.ofNone hk464)
 refine ⟨_, rfl, K465, ?_⟩
 have hzK465 := Keep.size K465
 have hsz466 := Keep.size hk464
 replace hK0 := hK0.tn hk464
 replace hLk := hLk.keep hk464 nk
 refine Gn [20, 21, 22, 23, 24, 25, 26, 27] [184, 189, 192] <| Mr 0 (pt l46) qhb53 <| Jk (free_spec Gz l46 (nesQ (S ++ R)).xs (nesQ (S ++ R)).cs 0 _ hLk) fun w467 hk468 _ => ?_
 replace hK0 := hK0.tn hk468
 refine Gn [25, 26, 27] [197] <| Gq_ (u := .bool (decide ((acct (nesQ (S ++ R)).xs 0).free = (acct (nesQ (S ++ R)).xs 0).free))) (v := .bool true) 197 (by rw [decide_eq_true (rfl : (acct (nesQ (S ++ R)).xs 0).free = (acct (nesQ (S ++ R)).xs 0).free)]) <| Jk (known_spec _) fun w471 hk472 _ => ?_
 replace hK0 := hK0.tn hk472
 exact Gn [] [4] <| GI_end <| X_then <| Rr (.bool true) ⟨rfl, hK0⟩
theorem over_ActNests {H : Type} {enc : TypeId × Value → H} {A B : Option Addr} {len cap len2 cap2 : Nat} {d d2 : DataW H} {ps ps2 : List MemPlace} {w : World} (h : DataW.Trod enc Tryz.prog w 0 (fun _ => true) true 49 (.slice A len cap) d ps) (h2 : DataW.Trod enc Tryz.prog w 0 (fun _ => true) true 49 (.slice B len2 cap2) d2 ps2) : Calls Tryz.prog 6 #[.slice A len cap, .slice B len2 cap2] w (rk_ w (.bool true)) := by
  obtain ⟨xs, rfl, hA, hl, hc⟩ := read_elems (f := intc) (ks := [.int .i64]) (n := 1) (sz := 1) lift_int Tryz.underlying49 (by kernel_rfl) (by kernel_rfl) rfl (by decide) h
  obtain ⟨ys, rfl, hB, hl2, hc2⟩ := read_elems (f := intc) (ks := [.int .i64]) (n := 1) (sz := 1) lift_int Tryz.underlying49 (by kernel_rfl) (by kernel_rfl) rfl (by decide) h2
  exact walk_ActNests A cap xs B cap2 ys w hA hB (by unfold maxLen at hc; omega) (by unfold maxLen at hc2; omega)
end Go.Al
