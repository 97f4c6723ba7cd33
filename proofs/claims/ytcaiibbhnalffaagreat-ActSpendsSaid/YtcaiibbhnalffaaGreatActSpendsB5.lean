/-
  Put together out of 4 texts: Walks of the laws of act: a beginning. Walks of the laws of act: a remark is told, too much is refused. A spend, as the law says it. Walks of the laws of act: a spend.
-/
import Derived.Test.YtcaiibbhnalffaaGreatActSpendsB4
set_option maxRecDepth 10000
namespace Go.Al
open Go Go.RowKit Go.Proofs
set_option maxHeartbeats 2000000 in
theorem begin0 (A : Option Addr) (cap : Nat) (fs : List Int) (w : World) (hA0 : ArgT w 1 intc A cap fs) (hn : fs.length ≤ 100000) : Calls Tryz.prog 9 #[.slice A fs.length cap, nt 0] w fun e w' => ∃ b r g v l H F G xv yv zv, e = .returned (pt b) ∧ Blk w' b [pt l, pt v, pt r, .pointer xv, .pointer yv, .pointer zv] 38 ∧ Rfr H w' r g actTs [] ∧ VotT F w' v VS.zero ∧ Led G w' l (frX fs) [] ∧ Keep none_ w w' ∧ w.heap.size ≤ b ∧ (∀ q, H q → w.heap.size ≤ q ∧ q ≠ b) ∧ (∀ q, F q → w.heap.size ≤ q ∧ q ≠ b) ∧ (∀ q, G q → w.heap.size ≤ q ∧ q ≠ b) ∧ (∀ q, H q → ¬ F q) ∧ (∀ q, H q → ¬ G q) ∧ (∀ q, F q → ¬ G q) := by
 have hA := hA0
 have hK0 : Keep none_ w w := Keep.refl _ _
 have hzhK0 := Keep.size hK0
 refine eV ?_
 refine Vr <| On 1 [0, 1] <| Oer <| On 1 [0, 1, 5] <| Oe <| V_seq <| Vn [0, 1, 5, 6] <| V_block <| Vp [(0, .slice A fs.length cap), (1, nt 0), (5, .slice none 0 0), (6, nt 0)] <| V_loop (fun k wI e => ∃ i : Nat, ∃ A2 : Option Addr, ∃ cap2 : Nat, ∃ ms : List Int, (k + i = 10) ∧ (i ≤ 10) ∧ (ms = frL fs i) ∧ (SlT wI 1 intc A2 cap2 ms) ∧ (∀ q, inA A2 q → w.heap.size ≤ q) ∧ Keep none_ w wI ∧ e = [(0, .slice A fs.length cap), (1, nt 0), (5, .slice A2 ms.length cap2), (6, nt (i : Int))]) 10 ⟨0, none, 0, [], by omega, by omega, rfl, SlT.nil _ _ _, fun q h => (inA_none h).elim, Keep.refl _ _, rfl⟩ ?_
 rintro k2 w1 _ ⟨i, A2, cap2, ms, hki, hi10, hms, hA2, ow2, hk3, rfl⟩
 have hsz4 := Keep.size hk3
 replace hA := ArgT.keep0 hA hk3
 replace hK0 := hK0.tn hk3
 have hzhk3 := Keep.size hk3
 have lt2 := SlT.lt hA2
 have hml : ms.length = i := by rw [hms, frL_len]
 refine V_seq <| Vn [0, 1, 5, 6, 18] <| Vi ((i : Int) < 10) (fun hc5 => ?_) (fun hc5 => ?_)
 ·
  refine Vsk <| V_seq <| V_block <| Vr <| On 1 [0, 1, 6, 21] <| OI_slit (E := 3) (zv := nt 0) (sz := 1) (by_ := 8) 49 1 #[(0, (Operand.const (Value.int IntKind.i64 100)))] [nt 100] [nt 100] (some 22) (by kernel_rfl) (by kernel_rfl) (by kernel_rfl) (by omega) rfl (by omega) (by intro v hv; simp only [List.mem_cons, List.not_mem_nil, or_false] at hv; rcases hv with rfl <;> rfl) (by kernel_rfl) rfl ?_
  intro b6 w6 e6 hb6 k6 z6
  have hsz7 := Keep.size k6
  replace hA := ArgT.keep0 hA k6
  replace hA2 := hA2.keep0 k6
  replace hk3 := hk3.tn k6
  have hb6lt := hb6.lt
  refine OI_append (t := 49) (at2 := 49) (E := 3) (E2 := 3) (sz := 1) (by_ := 8) (zv := nt 0) (m := ms.length) (k := 1) (.tmp 21) (.tmp 22) (.slice A2 ms.length cap2) (sl_ b6 0 1 1) (some 23) (by kernel_rfl) (by kernel_rfl) (by kernel_rfl) (by kernel_rfl) (by kernel_rfl) (by kernel_rfl) (by kernel_rfl) (SlT.slr hA2) (slr_one hb6 (intc_len 100)) (intc_one 100) (by first | omega | (simp only [List.length_nil]; omega)) (by omega) (by first | omega | (simp only [List.length_nil]; omega)) (by omega) ?_
  intro vv9 w8 hap
  obtain ⟨A8, cap8, rfl, hA8, hk8, own8x⟩ := app_one (f := intc) (xs := ms) (x := 100) (A := A2) (cap := cap2) hap (fun x _ => intc_len x) (intc_len _)
  have own8 : ∀ q, inA A8 q → w.heap.size ≤ q := fun q hq => by rcases own8x q hq with h | h; exact ow2 q h; (show w.heap.size ≤ q; omega)
  have hsz9 := Keep.size hk8
  replace hA := ArgT.keep hA hk8 hA0 (fun k hk hs => by have h1 := ow2 k hs; have h2 := lt2 k hs; omega)
  replace hk3 := Keep.fresh hk3 hk8 (by intro i hi hs; first | exact hs | (exfalso; have h1 := ow2 i hs; have h2 := lt2 i hs; omega) | (have h1 := ow2 i hs; have h2 := lt2 i hs; show _ ∨ _; omega))
  have lt8 := SlT.lt hA8
  refine On 4 [0, 1, 5, 6] <| Oer <| Oen [0, 1, 5, 6, 27] <| Vi ((i : Int) < (fs.length : Int)) (fun hc10 => ?_) (fun hc10 => ?_)
  ·
   have hapl : (ms ++ [100]).length = i + 1 := by rw [List.length_append, hml]; rfl
   refine V_region <| On 4 [0, 1, 5, 6, 28, 29, 30, 31] ?_
   obtain ⟨b11, o11, L11, rfl, hat11⟩ := ArgT.open_ hA (by first | omega | (simp only [List.length_map]; omega) | (simp; done) | (simp; omega))
   have hb11lt0 := ArgT.lt hA0 (by first | omega | (simp only [List.length_map]; omega) | (simp; done) | (simp; omega))
   have hb11lt := hat11.blk.lt
   refine Oi (b := b11) (o := o11) (len := fs.length) (cap := cap) (j := i) (some 32) 49 (.tmp 30) (.tmp 31) 3 1 8 .i64 ?_
   obtain ⟨x12, hx13⟩ : ∃ x, fs[i]? = some x := ⟨_, List.getElem?_eq_getElem (by first | omega | (simp only [List.length_map]; omega))⟩
   refine OI_cellR 3 (.tmp 32) (o11 + i * 1) (nt x12) (some 33) (by kernel_rfl) (by kernel_rfl) hat11.blk (m := 1) (by kernel_rfl) (AtR.cell0 hat11 (es_at hx13) rfl) <| On 8 [0, 1, 5, 6, 28, 29, 35] ?_
   obtain ⟨b14, o14, L14, T14, rfl, hat14⟩ := SlT.open_ hA8 (by first | omega | (simp only [List.length_map]; omega) | (simp; done) | (simp; omega))
   have hb14lt := hat14.blk.lt
   have hob15 := own8 b14 ⟨_, rfl, rfl⟩
   have hob16 := lt8 b14 ⟨_, rfl, rfl⟩
   refine Oi (b := b14) (o := o14) (len := (ms ++ [100]).length) (cap := cap8) (j := i) (some 36) 49 (.tmp 28) (.tmp 29) 3 1 8 .i64 ?_
   obtain ⟨x17, hx18⟩ : ∃ x, (ms ++ [100])[i]? = some x := ⟨_, List.getElem?_eq_getElem (by first | omega | (simp only [List.length_map]; omega))⟩
   refine OI_set (m := 1) (kd := false) 3 (.tmp 36) (.tmp 35) (o14 + i * 1) (nt (IntKind.i64.wrap (100 + (bAnd x12 1023)))) [nt (IntKind.i64.wrap (100 + (bAnd x12 1023)))] none (by kernel_rfl) (by kernel_rfl) (by kernel_rfl) (At.blk hat14) (by kernel_rfl) (by kernel_rfl) rfl (by have h1 := At.room hat14; have h2 := At.le hat14; rw [List.length_map] at h2; omega) (by simp [Value.oneCell']) ?_
   intro w19 hn20 hk21 hz22
   have hat23 := At.set (y := (IntKind.i64.wrap (100 + (bAnd x12 1023)) : Int)) (k := 0) hat14 hx18 (by omega) (by simp [intc, over]) hn20
   have hsz24 := Keep.size hk21
   replace hk3 := Keep.fr hk3 hk21
   have hlhx25 : ((ms ++ [100]).set i (IntKind.i64.wrap (100 + (bAnd x12 1023)))).length = (ms ++ [100]).length := List.length_set
   have hx25 : ((ms ++ [100]).set i (IntKind.i64.wrap (100 + (bAnd x12 1023))))[i]? = some (IntKind.i64.wrap (100 + (bAnd x12 1023))) := by rw [List.getElem?_set_self (List.getElem?_eq_some_iff.1 hx18).1]
   refine Op_ [(0, sl_ b11 o11 fs.length cap), (1, nt 0), (5, sl_ b14 o14 ((ms ++ [100]).length) cap8), (6, nt (i : Int))] <| Oq (u := sl_ b14 o14 ((ms ++ [100]).length) cap8) (v := sl_ b14 o14 (((ms ++ [100]).set i (IntKind.i64.wrap (100 + (bAnd x12 1023)))).length) cap8) 5 (by rw [List.length_set]) <| OI_end rfl <| X_block <| X_then <| V_region ?_
   have hw26 : IntKind.i64.wrap ((i : Int) + 1) = ((i + 1 : Nat) : Int) := (wrap64_id (by omega) (by omega)).trans (by omega)
   refine On 2 [0, 1, 5, 20] <| Oq (u := nt (IntKind.i64.wrap ((i : Int) + 1))) (v := nt ((i + 1 : Nat) : Int)) 20 (by rw [hw26]) <| Os 3 [(0, sl_ b11 o11 fs.length cap), (1, nt 0), (5, sl_ b14 o14 (((ms ++ [100]).set i (IntKind.i64.wrap (100 + (bAnd x12 1023)))).length) cap8), (6, nt ((i + 1 : Nat) : Int))] <| OI_end rfl ?_
   exact V_again (k2 - 1) (by omega) [(0, sl_ b11 o11 fs.length cap), (1, nt 0), (5, sl_ b14 o14 (((ms ++ [100]).set i (IntKind.i64.wrap (100 + (bAnd x12 1023)))).length) cap8), (6, nt ((i + 1 : Nat) : Int))] rfl ⟨i + 1, (some ⟨b14, o14, none⟩), cap8, (ms ++ [100]).set i (IntKind.i64.wrap (100 + (bAnd x12 1023))), by omega, by omega, by rw [frL_step, ← hms, frA_some hx13, ← hml]; simp, At.slt hat23, (fun q h => by have h3 := inA_some h; omega), hk3, rfl⟩
  have hapl : (ms ++ [100]).length = i + 1 := by rw [List.length_append, hml]; rfl
  refine V_skip <| X_block <| X_then <| V_region ?_
  have hw27 : IntKind.i64.wrap ((i : Int) + 1) = ((i + 1 : Nat) : Int) := (wrap64_id (by omega) (by omega)).trans (by omega)
  refine On 2 [0, 1, 5, 20] <| Oq (u := nt (IntKind.i64.wrap ((i : Int) + 1))) (v := nt ((i + 1 : Nat) : Int)) 20 (by rw [hw27]) <| Os 3 [(0, .slice A fs.length cap), (1, nt 0), (5, .slice A8 ((ms ++ [100]).length) cap8), (6, nt ((i + 1 : Nat) : Int))] <| OI_end rfl ?_
  exact V_again (k2 - 1) (by omega) [(0, .slice A fs.length cap), (1, nt 0), (5, .slice A8 ((ms ++ [100]).length) cap8), (6, nt ((i + 1 : Nat) : Int))] rfl ⟨i + 1, A8, cap8, ms ++ [100], by omega, by omega, by rw [frL_step, ← hms, frA_none (by omega)], hA8, own8, hk3, rfl⟩
 refine V_exit <| X_exit_then <| X_exit_then <| X_exit_here <| X_then <| Vr <| On 1 [1, 5, 38] ?_
 have hie : i = 10 := by omega
 replace hms : ms = frL fs 10 := by rw [hms, hie]
 refine Kg (new_okA A2 cap2 ms _ (SlT.arg hA2) (by omega) (by rw [hms]; exact frL_ok fs)) ?_
 rintro _ w28 ⟨l30, F31, rfl, ho32, hk29, hge33⟩
 refine ⟨_, rfl, ?_⟩
 have hsz34 := Keep.size hk29
 replace hA2 := hA2.keep0 hk29
 replace hK0 := hK0.tn hk29
 replace ho32 : Led F31 w28 l30 (frX fs) [] := by rw [hms] at ho32; exact ho32
 have own35 : ∀ q, F31 q → w1.heap.size ≤ q := fun q hq => by have h1 := hge33 q hq; omega
 have lt36 := Led.lt ho32
 have dis37 : ∀ q, F31 q → ¬ inA A2 q := fun q h1 h2 => by have h3 := hge33 q h1; have h4 := lt2 q h2; omega
 have hl30lt : l30 < w28.heap.size := Led.lt ho32 _ (Led.at_ ho32)
 have hl30ge := hge33 _ (Led.at_ ho32)
 refine On 7 [1, 5, 7, 8] <| Oer <| On 1 [1, 7, 8, 43] <| Kg (rnew6_weak A2 cap2 ms _ (SlT.arg hA2) (by omega)) ?_
 rintro _ w38 ⟨pv40, n41, rfl, hk39⟩
 refine ⟨_, rfl, ?_⟩
 have hsz42 := Keep.size hk39
 replace hK0 := hK0.tn hk39
 replace ho32 := ho32.keep hk39 nk
 refine On 7 [1, 7, 8, 9] <| Oer <| Kg (tracks_spec _) ?_
 rintro _ w43 ⟨A45, cap45, rfl, hA45, ow45, hk44⟩
 refine ⟨_, rfl, ?_⟩
 have hsz46 := Keep.size hk44
 replace hK0 := hK0.tn hk44
 replace ho32 := ho32.keep hk44 nk
 have lt45 := SlT.lt hA45
 have dis47 : ∀ q, inA A45 q → ¬ F31 q := fun q h1 h2 => by have h3 := ow45 q h1; have h4 := lt36 q h2; omega
 refine Kg (rnw_spec A45 cap45 actTs _ hA45 actTs_ok) ?_
 rintro _ w48 ⟨r50, gg54, H51, rfl, hR52, hk49, hge53⟩
 refine ⟨_, rfl, ?_⟩
 have hsz55 := Keep.size hk49
 replace hK0 := hK0.tn hk49
 replace ho32 := ho32.keep hk49 nk
 have own56 : ∀ q, H51 q → w43.heap.size ≤ q := fun q hq => by have h1 := hge53 q hq; omega
 have lt57 := Rfr.lt hR52
 have dis58 : ∀ q, H51 q → ¬ inA A2 q := fun q h1 h2 => by have h3 := hge53 q h1; have h4 := lt2 q h2; omega
 have dis59 : ∀ q, H51 q → ¬ inA A45 q := fun q h1 h2 => by have h3 := hge53 q h1; have h4 := lt45 q h2; omega
 have dis60 : ∀ q, H51 q → ¬ F31 q := fun q h1 h2 => by have h3 := hge53 q h1; have h4 := lt36 q h2; omega
 have hr50lt : r50 < w48.heap.size := Rfr.lt hR52 _ (Rfr.at_ hR52)
 have hr50ge := hge53 _ (Rfr.at_ hR52)
 refine On 7 [1, 7, 8, 9, 11, 12] <| Oer <| Kg (tracks_spec _) ?_
 rintro _ w61 ⟨A63, cap63, rfl, hA63, ow63, hk62⟩
 refine ⟨_, rfl, ?_⟩
 have hsz64 := Keep.size hk62
 replace hK0 := hK0.tn hk62
 replace ho32 := ho32.keep hk62 nk
 replace hR52 := hR52.keep hk62 nk
 have lt63 := SlT.lt hA63
 have dis65 : ∀ q, inA A63 q → ¬ F31 q := fun q h1 h2 => by have h3 := ow63 q h1; have h4 := lt36 q h2; omega
 have dis66 : ∀ q, inA A63 q → ¬ H51 q := fun q h1 h2 => by have h3 := ow63 q h1; have h4 := lt57 q h2; omega
 refine Kg (rnew12_weak A63 cap63 actTs _ hA63 actTs_ok) ?_
 rintro _ w67 ⟨pv69, rfl, hk68⟩
 refine ⟨_, rfl, ?_⟩
 have hsz70 := Keep.size hk68
 replace hK0 := hK0.tn hk68
 replace ho32 := ho32.keep hk68 nk
 replace hR52 := hR52.keep hk68 nk
 refine On 7 [1, 7, 8, 9, 11, 12, 13] <| Oer <| On 1 [1, 7, 8, 9, 11, 12, 13, 57] <| Kg (new_votT _) ?_
 rintro _ w73 ⟨g75, F76, rfl, ho77, hk74, hge78⟩
 refine ⟨_, rfl, ?_⟩
 have hsz79 := Keep.size hk74
 replace hK0 := hK0.tn hk74
 replace ho32 := ho32.keep hk74 nk
 replace hR52 := hR52.keep hk74 nk
 have own80 : ∀ q, F76 q → w67.heap.size ≤ q := fun q hq => by have h1 := hge78 q hq; omega
 have lt81 := VotT.lt ho77
 have dis82 : ∀ q, F76 q → ¬ inA A2 q := fun q h1 h2 => by have h3 := hge78 q h1; have h4 := lt2 q h2; omega
 have dis83 : ∀ q, F76 q → ¬ inA A45 q := fun q h1 h2 => by have h3 := hge78 q h1; have h4 := lt45 q h2; omega
 have dis84 : ∀ q, F76 q → ¬ inA A63 q := fun q h1 h2 => by have h3 := hge78 q h1; have h4 := lt63 q h2; omega
 have dis85 : ∀ q, F76 q → ¬ F31 q := fun q h1 h2 => by have h3 := hge78 q h1; have h4 := lt36 q h2; omega
 have dis86 : ∀ q, F76 q → ¬ H51 q := fun q h1 h2 => by have h3 := hge78 q h1; have h4 := lt57 q h2; omega
 have hg75lt : g75 < w73.heap.size := VotT.lt ho77 _ (VotT.at_ ho77)
 have hg75ge := hge78 _ (VotT.at_ ho77)
 refine On 4 [1, 7, 8, 11, 12, 13, 57, 58, 59, 60] <| Kg (rnew11_weak _) ?_
 rintro _ w87 ⟨pv89, rfl, hk88⟩
 refine ⟨_, rfl, ?_⟩
 have hsz90 := Keep.size hk88
 replace hK0 := hK0.tn hk88
 replace ho32 := ho32.keep hk88 nk
 replace hR52 := hR52.keep hk88 nk
 replace ho77 := ho77.keep hk88 nk
 refine On 7 [1, 7, 8, 11, 12, 63] <| Bx 38 [pt l30, pt g75, pt r50, .pointer pv40, .pointer pv89, .pointer pv69] ?_
 intro b91 w91 e91 hb91 k91 z91
 have hsz92 := Keep.size k91
 replace hK0 := hK0.tn k91
 replace ho32 := ho32.keep k91 nk
 replace hR52 := hR52.keep k91 nk
 replace ho77 := ho77.keep k91 nk
 have hb91lt := hb91.lt
 refine On 9 [1, 7, 8, 11, 12, 15] <| Oe <| V_seq <| Vr <| On 18 [1, 15, 79, 82] <| Lr 1 (pt g75) hb91 <| Oen [1, 15, 85] <| Vf <| Vsk <| V_seq <| Vn [1, 15, 16] <| V_block <| Vp [(1, nt 0), (15, pt b91), (16, nt 0)] <| V_loop (fun k wI e => (k = 0) ∧ Keep none_ w91 wI ∧ e = [(1, nt 0), (15, pt b91), (16, nt 0)]) 0 ⟨rfl, Keep.refl _ _, rfl⟩ ?_
 rintro k94 w93 _ ⟨hk9, hk95, rfl⟩
 have hsz96 := Keep.size hk95
 replace hb91 := hb91.k0 hk95
 replace hK0 := hK0.tn hk95
 replace ho32 := ho32.keep hk95 nk
 replace hR52 := hR52.keep hk95 nk
 replace ho77 := ho77.keep hk95 nk
 have hzhk95 := Keep.size hk95
 refine V_seq <| Vn [1, 15, 16, 90, 91, 92] <| Vf <| V_exit <| X_exit_then <| X_exit_then <| X_exit_here <| X_then <| Vs [(4, pt b91)] <| V_ret ?_
 exact X_return _ rfl ⟨b91, r50, gg54, g75, l30, H51, F76, F31, pv40, pv89, pv69, rfl, hb91, hR52, ho77, ho32, hK0, by omega, (fun q hq => ⟨by have h1 := own56 q hq; omega, by have h1 := lt57 q hq; omega⟩), (fun q hq => ⟨by have h1 := own80 q hq; omega, by have h1 := lt81 q hq; omega⟩), (fun q hq => ⟨by have h1 := own35 q hq; omega, by have h1 := lt36 q hq; omega⟩), (fun q h1 h2 => dis86 q h2 h1), dis60, dis85⟩
end Go.Al

namespace Go.Al
open Go Go.RowKit Go.Proofs
theorem kn1 : doD actTs 1 0 (CA.mk 1 0 7 none 0 []) (acQ []) = ([Evt.mk 5 1 7], 0, acQ []) := by kernel_rfl
theorem kn2 : doD actTs 0 0 (CA.mk 2 1 6 none 0 []) (acQ []) = ([], 10, acQ []) := by kernel_rfl
set_option maxHeartbeats 2000000 in
theorem known_spec (w : World) : Calls Tryz.prog 12 #[] w (rk_ w (.bool true)) := by
 have hK0 : Keep none_ w w := Keep.refl _ _
 have hzhK0 := Keep.size hK0
 refine eV ?_
 refine Vr <| On 1 [] <| Oer <| Kg (begin0 none 0 [] _ (.inl rfl) (by simp)) ?_
 rintro _ w3 ⟨b5, r6, gg7, v8, l9, H10, F11, G12, xv13, yv14, zv15, rfl, hb16, hR17, hV18, hL19, hk4, hge20, oH21, oF22, oG23, dHF24, dHG25, dFG26⟩
 refine ⟨_, rfl, ?_⟩
 have hsz27 := Keep.size hk4
 replace hK0 := hK0.tn hk4
 have hb5lt := hb16.lt
 have own28 : ∀ q, H10 q → w.heap.size ≤ q ∧ q ≠ b5 := fun q hq => by have h1 := oH21 q hq; omega
 have lt29 := Rfr.lt hR17
 have own30 : ∀ q, F11 q → w.heap.size ≤ q ∧ q ≠ b5 := fun q hq => by have h1 := oF22 q hq; omega
 have lt31 := VotT.lt hV18
 have own32 : ∀ q, G12 q → w.heap.size ≤ q ∧ q ≠ b5 := fun q hq => by have h1 := oG23 q hq; omega
 have lt33 := Led.lt hL19
 replace hR17 : Rfr H10 w3 r6 gg7 actTs (acQ []).rs := hR17
 replace hV18 : VotT F11 w3 v8 ((acQ []).s) := hV18
 replace hL19 : Led G12 w3 l9 (acQ []).xs (acQ []).cs := hL19
 refine On 2 [1] <| Oe <| V_seq <| Vn [1, 8] <| Vf <| Vsk <| V_seq <| V_draws (acts [13]) none_ [[0, 1, 2, 3, 4, 5, 6, 7, 8, 9, 10, 11, 12, 13, 14, 15, 16, 17, 18]] (by kernel_rfl) (by repeat first | exact (by first | exact sure_body (by rintro _ _ ⟨_, _, h, _⟩; exact ⟨_, h⟩) | exact sure_body (by rintro _ _ ⟨_, _, _, _, _, _, _, _, _, _, _, h, _⟩; exact ⟨_, h⟩) | exact sure_body (by rintro _ _ ⟨h, _⟩; exact ⟨_, h⟩)) | refine sure_then ?_ | refine sure_block ?_ | refine sure_join ?_) (by kernel_rfl) ?_
 intro w35 hk34 he36 L hL37
 have hsz38 := Keep.size hk34
 replace hb16 := hb16.k0 hk34
 replace hK0 := hK0.tn hk34
 replace hR17 := hR17.keep hk34 nk
 replace hV18 := hV18.keep hk34 nk
 replace hL19 := hL19.keep hk34 nk
 have qhb16 := hb16
 have K39 : Keep none_ w35 w35 := Keep.refl _ _
 obtain rfl := List.mem_singleton.1 hL37
 refine Gn [3, 4, 5, 6, 7, 8, 9, 10, 11, 12, 13, 14, 15, 16, 17, 18] [1, 12] <| Mr 0 (pt l9) qhb16 <| Gn [7, 8, 9, 10, 11, 12, 13, 14, 15, 16, 17, 18] [1, 13, 16] <| Mr 1 (pt v8) qhb16 <| Gn [11, 12, 13, 14, 15, 16, 17, 18] [1, 13, 17, 20] <| Mr 2 (pt r6) qhb16 <| Gs [13, 14, 15, 16, 17, 18] [(1, pt b5), (13, pt l9), (17, pt v8), (21, pt r6), (22, .agg (CA.cells (CA.mk 1 0 7 none 0 [])).toArray)] <| Gk0 (kl 10 #[(.tmp 13), (.tmp 17), (.tmp 21), (.tmp 22), (.const (nt 1)), (.const (nt 0))] #[31, 32, 33, 26, 3, 3]) 10 #[pt l9, pt v8, pt r6, .agg (CA.cells (CA.mk 1 0 7 none 0 [])).toArray, nt 1, nt 0] (some 23) (do_spec none_ (CA.mk 1 0 7 none 0 []) r6 gg7 actTs v8 l9 1 0 H10 F11 G12 (acQ []) _ (RepIn.none (fun q h => (inA_none h).elim)) hR17 hV18 hL19 dHF24 dHG25 dFG26 (fun q h => h.elim)) ?_
 rintro _ w42 ⟨A44, cap44, rfl, hA44, ow44, ⟨F45, F48, F51, ho46, ho49, ho52, hfr47, hfr50, hfr53, hdis54, hdis55, hdis56, dA57, dA58, dA59⟩, hk43⟩
 refine ⟨_, rfl, ?_⟩
 have hsz60 := Keep.size hk43
 replace hb16 := hb16.keep hk43 (fun hs => by rcases hs with hs | hs | hs; (have u9 : _ = gg7 := hs; have u0 := own28 _ (Rfr.atg hR17); have u1 := lt29 _ (Rfr.atg hR17); omega); (have u0 := own30 _ hs; have u1 := lt31 _ hs; omega); (have u0 := own32 _ hs; have u1 := lt33 _ hs; omega))
 replace hK0 := Keep.fresh hK0 hk43 (by intro i hi hs; first | exact hs | (rcases hs with hs | hs | hs; (have u9 : _ = gg7 := hs; have u0 := own28 _ (Rfr.atg hR17); have u1 := lt29 _ (Rfr.atg hR17); omega); (have u0 := own30 i hs; have u1 := lt31 i hs; omega); (have u0 := own32 i hs; have u1 := lt33 i hs; omega)))
 have own62 : ∀ q, F45 q → w.heap.size ≤ q ∧ q ≠ b5 := fun q hq => by rcases hfr47 q hq with h | h; (have h1 := own28 q h; have h2 := lt29 q h; omega); omega
 have lt61 := Rfr.lt ho46
 have own64 : ∀ q, F48 q → w.heap.size ≤ q ∧ q ≠ b5 := fun q hq => by rcases hfr50 q hq with h | h; (have h1 := own30 q h; have h2 := lt31 q h; omega); omega
 have lt63 := VotT.lt ho49
 have own66 : ∀ q, F51 q → w.heap.size ≤ q ∧ q ≠ b5 := fun q hq => by rcases hfr53 q hq with h | h; (have h1 := own32 q h; have h2 := lt33 q h; omega); omega
 have lt65 := Led.lt ho52
 have ltA44 := SlT.lt hA44
 replace hA44 := SlT.ofE (xs := (doD actTs 1 0 (CA.mk 1 0 7 none 0 []) (acQ [])).1) hA44 (show _ = [Evt.mk 5 1 7] from by rw [kn1])
 replace ho46 : Rfr F45 w42 r6 gg7 actTs ((doD actTs 1 0 (CA.mk 1 0 7 none 0 []) (acQ [])).2.2).rs := ho46
 replace ho49 : VotT F48 w42 v8 (((doD actTs 1 0 (CA.mk 1 0 7 none 0 []) (acQ [])).2.2).s) := ho49
 replace ho52 : Led F51 w42 l9 ((doD actTs 1 0 (CA.mk 1 0 7 none 0 []) (acQ [])).2.2).xs ((doD actTs 1 0 (CA.mk 1 0 7 none 0 []) (acQ [])).2.2).cs := ho52
 rw [kn1] at ho46
 rw [kn1] at ho49
 rw [kn1] at ho52
 replace ho46 : Rfr F45 w42 r6 gg7 actTs (acQ []).rs := ho46
 replace ho49 : VotT F48 w42 v8 ((acQ []).s) := ho49
 replace ho52 : Led F51 w42 l9 (acQ []).xs (acQ []).cs := ho52
 refine Gp_ [(1, pt b5), (23, .tuple #[.slice A44 (((doD actTs 1 0 (CA.mk 1 0 7 none 0 []) (acQ [])).1).length) cap44, nt ((doD actTs 1 0 (CA.mk 1 0 7 none 0 []) (acQ [])).2.1)])] <| Gq_ (u := .tuple #[.slice A44 (((doD actTs 1 0 (CA.mk 1 0 7 none 0 []) (acQ [])).1).length) cap44, nt ((doD actTs 1 0 (CA.mk 1 0 7 none 0 []) (acQ [])).2.1)]) (v := .tuple #[.slice A44 1 cap44, nt 0]) 23 (by rw [show (doD actTs 1 0 (CA.mk 1 0 7 none 0 []) (acQ [])).1 = [Evt.mk 5 1 7] from by rw [kn1]]; rw [kn1]; rfl) <| Gn [] [1, 2, 3] <| GI_end <| X_then <| V_seq <| V_draws (acts [13]) none_ [[0, 1, 2, 3, 4, 5, 6, 7, 8, 9, 10, 11, 12, 13, 14, 15, 16, 17, 18]] (by kernel_rfl) (by repeat first | exact (by first | exact sure_body (by rintro _ _ ⟨_, _, h, _⟩; exact ⟨_, h⟩) | exact sure_body (by rintro _ _ ⟨_, _, _, _, _, _, _, _, _, _, _, h, _⟩; exact ⟨_, h⟩) | exact sure_body (by rintro _ _ ⟨h, _⟩; exact ⟨_, h⟩)) | refine sure_then ?_ | refine sure_block ?_ | refine sure_join ?_) (by kernel_rfl) ?_
 intro w68 hk67 he69 L hL70
 have hsz71 := Keep.size hk67
 replace hb16 := hb16.k0 hk67
 replace hA44 := hA44.keep0 hk67
 replace hK0 := hK0.tn hk67
 replace ho46 := ho46.keep hk67 nk
 replace ho49 := ho49.keep hk67 nk
 replace ho52 := ho52.keep hk67 nk
 have qhb16 := hb16
 have K72 : Keep none_ w68 w68 := Keep.refl _ _
 obtain rfl := List.mem_singleton.1 hL70
 refine Gn [3, 4, 5, 6, 7, 8, 9, 10, 11, 12, 13, 14, 15, 16, 17, 18] [1, 2, 3, 29] <| Mr 0 (pt l9) qhb16 <| Gn [7, 8, 9, 10, 11, 12, 13, 14, 15, 16, 17, 18] [1, 2, 3, 30, 33] <| Mr 1 (pt v8) qhb16 <| Gn [11, 12, 13, 14, 15, 16, 17, 18] [2, 3, 30, 34, 37] <| Mr 2 (pt r6) qhb16 <| Gs [13, 14, 15, 16, 17, 18] [(2, .slice A44 1 cap44), (3, nt 0), (30, pt l9), (34, pt v8), (38, pt r6), (39, .agg (CA.cells (CA.mk 2 1 6 none 0 [])).toArray)] <| Gk0 (kl 10 #[(.tmp 30), (.tmp 34), (.tmp 38), (.tmp 39), (.const (nt 0)), (.const (nt 0))] #[31, 32, 33, 26, 3, 3]) 10 #[pt l9, pt v8, pt r6, .agg (CA.cells (CA.mk 2 1 6 none 0 [])).toArray, nt 0, nt 0] (some 40) (do_spec none_ (CA.mk 2 1 6 none 0 []) r6 gg7 actTs v8 l9 0 0 F45 F48 F51 (acQ []) _ (RepIn.none (fun q h => (inA_none h).elim)) ho46 ho49 ho52 hdis54 hdis55 hdis56 (fun q h => h.elim)) ?_
 rintro _ w75 ⟨A77, cap77, rfl, hA77, ow77, ⟨F78, F81, F84, ho79, ho82, ho85, hfr80, hfr83, hfr86, hdis87, hdis88, hdis89, dA90, dA91, dA92⟩, hk76⟩
 refine ⟨_, rfl, ?_⟩
 have hsz93 := Keep.size hk76
 replace hA44 := hA44.keep hk76 (fun q hq hs => by rcases hs with hs | hs | hs; exact dA57 q hq (by rw [show q = gg7 from hs]; exact (Rfr.atg ho46)); exact dA58 q hq hs; exact dA59 q hq hs)
 replace hK0 := Keep.fresh hK0 hk76 (by intro i hi hs; first | exact hs | (rcases hs with hs | hs | hs; (have u9 : _ = gg7 := hs; have u0 := own62 _ (Rfr.atg ho46); have u1 := lt61 _ (Rfr.atg ho46); omega); (have u0 := own64 i hs; have u1 := lt63 i hs; omega); (have u0 := own66 i hs; have u1 := lt65 i hs; omega)))
 have own95 : ∀ q, F78 q → w.heap.size ≤ q := fun q hq => by rcases hfr80 q hq with h | h; (have h1 := own62 q h; have h2 := lt61 q h; omega); omega
 have lt94 := Rfr.lt ho79
 have dis96 : ∀ q, F78 q → ¬ inA A44 q := fun q h1 h2 => by rcases hfr80 q h1 with h | h; exact (fun q h1 h2 => dA57 q h2 h1) q h h2; (have h4 := ltA44 q h2; omega)
 have own98 : ∀ q, F81 q → w.heap.size ≤ q := fun q hq => by rcases hfr83 q hq with h | h; (have h1 := own64 q h; have h2 := lt63 q h; omega); omega
 have lt97 := VotT.lt ho82
 have dis99 : ∀ q, F81 q → ¬ inA A44 q := fun q h1 h2 => by rcases hfr83 q h1 with h | h; exact (fun q h1 h2 => dA58 q h2 h1) q h h2; (have h4 := ltA44 q h2; omega)
 have own101 : ∀ q, F84 q → w.heap.size ≤ q := fun q hq => by rcases hfr86 q hq with h | h; (have h1 := own66 q h; have h2 := lt65 q h; omega); omega
 have lt100 := Led.lt ho85
 have dis102 : ∀ q, F84 q → ¬ inA A44 q := fun q h1 h2 => by rcases hfr86 q h1 with h | h; exact (fun q h1 h2 => dA59 q h2 h1) q h h2; (have h4 := ltA44 q h2; omega)
 have ltA77 := SlT.lt hA77
 replace ho79 : Rfr F78 w75 r6 gg7 actTs ((doD actTs 0 0 (CA.mk 2 1 6 none 0 []) (acQ [])).2.2).rs := ho79
 replace ho82 : VotT F81 w75 v8 (((doD actTs 0 0 (CA.mk 2 1 6 none 0 []) (acQ [])).2.2).s) := ho82
 replace ho85 : Led F84 w75 l9 ((doD actTs 0 0 (CA.mk 2 1 6 none 0 []) (acQ [])).2.2).xs ((doD actTs 0 0 (CA.mk 2 1 6 none 0 []) (acQ [])).2.2).cs := ho85
 rw [kn2] at ho79
 rw [kn2] at ho82
 rw [kn2] at ho85
 replace ho79 : Rfr F78 w75 r6 gg7 actTs (acQ []).rs := ho79
 replace ho82 : VotT F81 w75 v8 ((acQ []).s) := ho82
 replace ho85 : Led F84 w75 l9 (acQ []).xs (acQ []).cs := ho85
 refine Gp_ [(2, .slice A44 1 cap44), (3, nt 0), (40, .tuple #[.slice A77 (((doD actTs 0 0 (CA.mk 2 1 6 none 0 []) (acQ [])).1).length) cap77, nt ((doD actTs 0 0 (CA.mk 2 1 6 none 0 []) (acQ [])).2.1)])] <| Gq_ (u := .tuple #[.slice A77 (((doD actTs 0 0 (CA.mk 2 1 6 none 0 []) (acQ [])).1).length) cap77, nt ((doD actTs 0 0 (CA.mk 2 1 6 none 0 []) (acQ [])).2.1)]) (v := .tuple #[.slice A77 0 cap77, nt 10]) 40 (by rw [show (doD actTs 0 0 (CA.mk 2 1 6 none 0 []) (acQ [])).1 = ([] : List Evt) from by rw [kn2]]; rw [kn2]; rfl) <| Gn [] [2, 3, 5] <| GI_end <| X_then <| Vr <| On 9 [5, 50, 51] ?_
 obtain ⟨b103, o103, L103, T103, rfl, hat103⟩ := SlT.open_ hA44 (by first | omega | (simp only [List.length_map]; omega) | (simp; done) | (simp; omega))
 have hb103lt := hat103.blk.lt
 have hob104 := ow44 b103 ⟨_, rfl, rfl⟩
 have hob105 := ltA44 b103 ⟨_, rfl, rfl⟩
 have hne106 : ∀ q, F78 q → q ≠ b103 := fun q hq hs => dis96 q hq ⟨_, rfl, hs⟩
 have own107 := fun q hq => And.intro (own95 q hq) (hne106 q hq)
 have hne108 : ∀ q, F81 q → q ≠ b103 := fun q hq hs => dis99 q hq ⟨_, rfl, hs⟩
 have own109 := fun q hq => And.intro (own98 q hq) (hne108 q hq)
 have hne110 : ∀ q, F84 q → q ≠ b103 := fun q hq hs => dis102 q hq ⟨_, rfl, hs⟩
 have own111 := fun q hq => And.intro (own101 q hq) (hne110 q hq)
 exact Oi (b := b103) (o := o103) (len := 1) (cap := cap44) (j := 0) (some 52) 27 (.tmp 51) (.const (Value.int IntKind.i64 0)) 52 3 24 .i64 <| La (o103 + 0 * 3) (Evt.cells (Evt.mk 5 1 7)) 3 hat103.blk (At.elem' hat103 (es_at (rfl : ([Evt.mk 5 1 7] : List Evt)[0]? = some (Evt.mk 5 1 7)))) (At.len hat103 (es_at (rfl : ([Evt.mk 5 1 7] : List Evt)[0]? = some (Evt.mk 5 1 7)))) <| On 12 [5, 50, 53, 54] <| OI_pure (some 55) ((Op.binOp BinOp.eql 52 (Operand.tmp 53) (Operand.tmp 54) 52)) (by kernel_rfl) (pure_eql_same (xs := Evt.cells (Evt.mk 5 1 7)) (by kernel_rfl) (by kernel_rfl) (by kernel_rfl) (by kernel_rfl)) <| Oen [0] <| Rr (.bool true) ⟨rfl, hK0⟩
end Go.Al

namespace Go.Al
open Go Go.RowKit Go.Proofs
theorem bAnd_id {x : Int} {k : Nat} (hk : k ≤ 62) (h1 : 0 ≤ x) (h2 : x < 2 ^ k) : bAnd x (2 ^ k - 1) = x := by
  obtain ⟨n, rfl⟩ : ∃ n : Nat, x = n := ⟨x.toNat, by omega⟩
  have hp : (2 ^ k : Nat) ≤ 2 ^ 62 := Nat.pow_le_pow_right (by decide) hk
  have hpos : 0 < (2 ^ k : Nat) := Nat.pow_pos (by decide)
  have hn : n < 2 ^ k := by have : (n : Int) < ((2 ^ k : Nat) : Int) := by simpa using h2
                            omega
  unfold bAnd
  have e1 : (BitVec.ofInt 64 (n : Int) &&& BitVec.ofInt 64 ((2 : Int) ^ k - 1)).toNat = n := by
    rw [BitVec.toNat_and, BitVec.toNat_ofInt, BitVec.toNat_ofInt]
    have a1 : ((n : Int) % ((2 ^ 64 : Nat) : Int)).toNat = n := by
      rw [Int.emod_eq_of_lt (by omega) (by omega)]; omega
    have a2 : (((2 : Int) ^ k - 1) % ((2 ^ 64 : Nat) : Int)).toNat = 2 ^ k - 1 := by
      have : ((2 : Int) ^ k) = ((2 ^ k : Nat) : Int) := by simp
      rw [this, Int.emod_eq_of_lt (by omega) (by omega)]; omega
    rw [a1, a2, Nat.and_two_pow_sub_one_eq_mod, Nat.mod_eq_of_lt hn]
  rw [e1]
  exact w64_id (by omega) (by omega)
def asM (j : Nat) : Int := if j = 0 then 5 else if j = 1 then 50 else 5000
theorem asM_at {j : Nat} (h : j < 3) : [Value.int .i64 5, Value.int .i64 50, Value.int .i64 5000][0 + j * 1]? = some (nt (asM j)) := by
  match j, h with
  | 0, _ => rfl
  | 1, _ => rfl
  | 2, _ => rfl
theorem trk_at {j : Nat} (h : j < 3) : (trkA actTs (j : Int)).cap = asM j ∧ (trkO actTs (j : Int)).isSome = true := by
  match j, h with
  | 0, _ => exact ⟨rfl, rfl⟩
  | 1, _ => exact ⟨rfl, rfl⟩
  | 2, _ => exact ⟨rfl, rfl⟩
theorem fr0 {x : Int} (h0 : 0 ≤ x) (h1 : x ≤ 1023) : frA [x] 0 = 100 + x := by
  show IntKind.i64.wrap (100 + bAnd x 1023) = _
  rw [show bAnd x 1023 = x from bAnd_id (k := 10) (by omega) h0 (by omega), wrap64_id (by omega) (by omega)]
theorem spend_E {xs : List Acc} {a n : Int} (ha : isA a = true) (hn : 0 ≤ n ∧ n ≤ 1073741824) : spendsE xs [] a n = if n > (acct xs a).free then 6 else if n > 0 ∧ (acct xs a).free - n < 0 then 7 else 0 := by
  unfold spendsE
  simp_all [lockedL, rowL, lockM]
section
variable {fs : List Int} {to n : Int} {j : Nat}
theorem spend_ok (hj : j < 3) (ht : 0 ≤ to ∧ to < 10) (hn : 0 ≤ n ∧ n ≤ 1000000) (u : RW) : doD actTs (j : Int) 0 (CA.mk 2 to n none 0 []) u = spS (trkA actTs (j : Int)) (CA.mk 2 to n none 0 []) u := by
  unfold doD
  rw [if_neg]
  · rfl
  · rintro (h | h)
    · rw [(trk_at hj).2] at h; cases h
    · have : okCA 3 (CA.mk 2 to n none 0 []) = true := by
        show stepC true _ _ = true
        unfold stepC
        simp [CA.k, CA.to, CA.n, CA.kids, ht.1, hn.1, (by omega : to ≤ 9), (by omega : n ≤ 1073741824)]
      rw [this] at h; cases h
theorem isA_true {a : Int} (h : 0 ≤ a ∧ a < 10) : isA a = true := decide_eq_true h
theorem as_over (hj : j < 3) (ht : 0 ≤ to ∧ to < 10) (hn : 0 ≤ n ∧ n ≤ 1000000) (u : RW) (h : n > asM j) : doD actTs (j : Int) 0 (CA.mk 2 to n none 0 []) u = ([], 10, u) := by
  rw [spend_ok hj ht hn]; unfold spS; rw [(trk_at hj).1]; exact if_pos h
theorem as_funds (hj : j < 3) (ht : 0 ≤ to ∧ to < 10) (hn : 0 ≤ n ∧ n ≤ 1000000) (h : ¬ n > asM j) (hf : n > frA fs 0) : doD actTs (j : Int) 0 (CA.mk 2 to n none 0 []) (acQ fs) = ([], 6, acQ fs) := by
  have h1 : spendsE (frX fs) [] 0 n = 6 := by rw [spend_E rfl (by omega)]; exact if_pos hf
  have h2 : transE (frX fs) [] 0 to n = 6 := by unfold transE; rw [isA_true ht, h1]; rfl
  have h3 : transX (frX fs) [] 0 to n = frX fs := by unfold transX; rw [h1]; exact if_neg (by rintro ⟨_, h⟩; cases h)
  rw [spend_ok hj ht hn]; unfold spS; rw [(trk_at hj).1]
  show (if n > asM j then _ else _) = _
  rw [if_neg h]
  show (if transE (frX fs) [] 0 to n ≠ 0 then ([], transE (frX fs) [] 0 to n, (⟨transX (frX fs) [] 0 to n, [], VS.zero, []⟩ : RW)) else _) = _
  rw [h2, h3]; rfl
def asX (fs : List Int) (to n : Int) : List Acc := addF (subF (frX fs) 0 n) to n
theorem as_go (hj : j < 3) (ht : 0 ≤ to ∧ to < 10) (hn : 0 ≤ n ∧ n ≤ 1000000) (h : ¬ n > asM j) (hf : ¬ n > frA fs 0) : doD actTs (j : Int) 0 (CA.mk 2 to n none 0 []) (acQ fs) = ([Evt.mk 3 to n], 0, ⟨asX fs to n, [], VS.zero, []⟩) := by
  have h1 : spendsE (frX fs) [] 0 n = 0 := by rw [spend_E rfl (by omega)]; show (if n > frA fs 0 then _ else if n > 0 ∧ frA fs 0 - n < 0 then _ else _) = _; rw [if_neg hf, if_neg (by omega)]
  have h2 : transE (frX fs) [] 0 to n = 0 := by unfold transE; rw [isA_true ht, h1]; rfl
  have h3 : transX (frX fs) [] 0 to n = asX fs to n := by unfold transX; rw [h1]; exact if_pos ⟨isA_true ht, rfl⟩
  rw [spend_ok hj ht hn]; unfold spS; rw [(trk_at hj).1]
  show (if n > asM j then _ else _) = _
  rw [if_neg h]
  show (if transE (frX fs) [] 0 to n ≠ 0 then _ else ([Evt.mk 3 to n], 0, (⟨transX (frX fs) [] 0 to n, [], VS.zero, []⟩ : RW))) = _
  rw [h2, h3]; rfl
theorem ten {p : Int → Prop} (h0 : p 0) (h1 : p 1) (h2 : p 2) (h3 : p 3) (h4 : p 4) (h5 : p 5) (h6 : p 6) (h7 : p 7) (h8 : p 8) (h9 : p 9) {a : Int} (h : 0 ≤ a ∧ a < 10) : p a := by
  have : a = 0 ∨ a = 1 ∨ a = 2 ∨ a = 3 ∨ a = 4 ∨ a = 5 ∨ a = 6 ∨ a = 7 ∨ a = 8 ∨ a = 9 := by omega
  rcases this with rfl | rfl | rfl | rfl | rfl | rfl | rfl | rfl | rfl | rfl <;> assumption
theorem as_was (ht : 0 ≤ to ∧ to < 10) : 100 ≤ (acct (acQ fs).xs to).free ∧ (acct (acQ fs).xs to).free ≤ 1123 := by
  have h := frA_bnd fs
  exact ten (p := fun to => 100 ≤ (acct (acQ fs).xs to).free ∧ (acct (acQ fs).xs to).free ≤ 1123) (h 0) (h 1) (h 2) (h 3) (h 4) (h 5) (h 6) (h 7) (h 8) (h 9) ht
theorem as_free (ht : 0 ≤ to ∧ to < 10) : (acct (asX fs to n) to).free = (acct (acQ fs).xs to).free + (if to = 0 then 0 else n) ∧ (to ≠ 0 → (acct (asX fs to n) 0).free = frA fs 0 - n) := by
  refine ten (p := fun to => (acct (asX fs to n) to).free = (acct (acQ fs).xs to).free + (if to = 0 then 0 else n) ∧ (to ≠ 0 → (acct (asX fs to n) 0).free = frA fs 0 - n)) ⟨?_, fun h => (h rfl).elim⟩ ⟨rfl, fun _ => rfl⟩ ⟨rfl, fun _ => rfl⟩ ⟨rfl, fun _ => rfl⟩ ⟨rfl, fun _ => rfl⟩ ⟨rfl, fun _ => rfl⟩ ⟨rfl, fun _ => rfl⟩ ⟨rfl, fun _ => rfl⟩ ⟨rfl, fun _ => rfl⟩ ⟨rfl, fun _ => rfl⟩ ht
  show frA fs 0 - n + n = frA fs 0 + 0
  omega
end
end Go.Al

namespace Go.Al
open Go Go.RowKit Go.Proofs
set_option maxHeartbeats 2000000 in
theorem walk_ActSpends (have_ to n track : Int) (w : World) : Calls Tryz.prog 4 #[nt have_, nt to, nt n, nt track] w (rk_ w (.bool true)) := by
 have hK0 : Keep none_ w w := Keep.refl _ _
 have hzhK0 := Keep.size hK0
 refine eV ?_
 refine Vr <| On 1 [0, 1, 2, 3] <| Oe <| V_seq <| Vr <| On 3 [0, 1, 2, 3, 16] ?_
 by_cases hg1 : have_ < 0
 ·
  exact Dt 16 hg1 <| Oen [0, 1, 2, 3, 43] <| Vo <| Vn [8] <| Rt <| Xr (.bool true) ⟨rfl, hK0⟩
 refine Df 16 hg1 <| On 7 [0, 1, 2, 3, 20] ?_
 by_cases hg2 : have_ > 1023
 ·
  exact Dt 20 hg2 <| Oen [0, 1, 2, 3, 43] <| Vo <| Vn [8] <| Rt <| Xr (.bool true) ⟨rfl, hK0⟩
 refine Df 20 hg2 <| On 11 [0, 1, 2, 3, 24] ?_
 by_cases hg3 : to < 0
 ·
  exact Dt 24 hg3 <| Oen [0, 1, 2, 3, 43] <| Vo <| Vn [8] <| Rt <| Xr (.bool true) ⟨rfl, hK0⟩
 refine Df 24 hg3 <| On 15 [0, 1, 2, 3, 28] ?_
 by_cases hg4 : to ≥ 10
 ·
  exact Dt 28 hg4 <| Oen [0, 1, 2, 3, 43] <| Vo <| Vn [8] <| Rt <| Xr (.bool true) ⟨rfl, hK0⟩
 refine Df 28 hg4 <| On 19 [0, 1, 2, 3, 32] ?_
 by_cases hg5 : n < 0
 ·
  exact Dt 32 hg5 <| Oen [0, 1, 2, 3, 43] <| Vo <| Vn [8] <| Rt <| Xr (.bool true) ⟨rfl, hK0⟩
 refine Df 32 hg5 <| On 23 [0, 1, 2, 3, 36] ?_
 by_cases hg6 : n > 6000
 ·
  exact Dt 36 hg6 <| Oen [0, 1, 2, 3, 43] <| Vo <| Vn [8] <| Rt <| Xr (.bool true) ⟨rfl, hK0⟩
 refine Df 36 hg6 <| On 27 [0, 1, 2, 3, 40] ?_
 by_cases hg7 : track < 0
 ·
  exact Dt 40 hg7 <| Oen [0, 1, 2, 3, 43] <| Vo <| Vn [8] <| Rt <| Xr (.bool true) ⟨rfl, hK0⟩
 refine Df 40 hg7 <| Oen [0, 1, 2, 3, 43] <| Vi (track > 2) (fun hc8 => ?_) (fun hc8 => ?_)
 ·
  exact Vn [8] <| Rt <| Xr (.bool true) ⟨rfl, hK0⟩
 obtain ⟨j, rfl⟩ : ∃ j : Nat, track = (j : Int) := ⟨track.toNat, by omega⟩
 have hj3 : j < 3 := by omega
 have hwas := as_was (fs := [have_]) (to := to) (by omega)
 have hf0 := fr0 (x := have_) (by omega) (by omega)
 refine Vsk <| Vr <| On 1 [0, 1, 2, 3, 44] <| OI_slit (E := 3) (zv := nt 0) (sz := 1) (by_ := 8) 49 1 #[(0, (Operand.tmp 44))] [nt have_] [nt have_] (some 45) (by kernel_rfl) (by kernel_rfl) (by kernel_rfl) (by omega) rfl (by omega) (by intro v hv; simp only [List.mem_cons, List.not_mem_nil, or_false] at hv; rcases hv with rfl <;> rfl) (by kernel_rfl) rfl ?_
 intro b9 w9 e9 hb9 k9 z9
 have hsz10 := Keep.size k9
 replace hK0 := hK0.tn k9
 have hb9lt := hb9.lt
 refine Kg (begin0 (some ⟨b9, 0, none⟩) 1 [have_] _ (SlT.arg (slt_blk (xs := [have_]) (f := intc) hb9 (fun _ => rfl) rfl)) (by simp)) ?_
 rintro _ w13 ⟨b15, r16, gg17, v18, l19, H20, F21, G22, xv23, yv24, zv25, rfl, hb26, hR27, hV28, hL29, hk14, hge30, oH31, oF32, oG33, dHF34, dHG35, dFG36⟩
 refine ⟨_, rfl, ?_⟩
 have hsz37 := Keep.size hk14
 replace hK0 := hK0.tn hk14
 have hb15lt := hb26.lt
 have own38 : ∀ q, H20 q → w9.heap.size ≤ q ∧ q ≠ b9 ∧ q ≠ b15 := fun q hq => by have h1 := oH31 q hq; omega
 have lt39 := Rfr.lt hR27
 have own40 : ∀ q, F21 q → w9.heap.size ≤ q ∧ q ≠ b9 ∧ q ≠ b15 := fun q hq => by have h1 := oF32 q hq; omega
 have lt41 := VotT.lt hV28
 have own42 : ∀ q, G22 q → w9.heap.size ≤ q ∧ q ≠ b9 ∧ q ≠ b15 := fun q hq => by have h1 := oG33 q hq; omega
 have lt43 := Led.lt hL29
 replace hR27 : Rfr H20 w13 r16 gg17 actTs (acQ [have_]).rs := hR27
 replace hV28 : VotT F21 w13 v18 ((acQ [have_]).s) := hV28
 replace hL29 : Led G22 w13 l19 (acQ [have_]).xs (acQ [have_]).cs := hL29
 refine On 4 [0, 1, 2, 3, 9] <| Oe <| V_seq <| Vn [0, 1, 2, 3, 9, 48] <| Vf <| Vsk <| Vr <| On 3 [0, 1, 2, 3, 9, 51] <| Lr 0 (pt l19) hb26 <| On 5 [0, 1, 2, 3, 9, 52, 53] <| Kk (free_spec G22 l19 (acQ [have_]).xs (acQ [have_]).cs to _ hL29) fun w44 hk45 _ => ?_
 replace hK0 := hK0.tn hk45
 replace hR27 := hR27.keep hk45 nk
 replace hV28 := hV28.keep hk45 nk
 replace hL29 := hL29.keep hk45 nk
 refine Oen [0, 1, 2, 3, 9, 10] <| V_seq <| V_draws (acts [16]) none_ [[0, 1, 2, 3, 4, 5, 6, 7, 8, 9, 10, 11, 12, 13, 14, 15, 16, 17, 18, 19, 20, 21]] (by kernel_rfl) (by repeat first | exact (by first | exact sure_body (by rintro _ _ ⟨_, _, h, _⟩; exact ⟨_, h⟩) | exact sure_body (by rintro _ _ ⟨_, _, _, _, _, _, _, _, _, _, _, h, _⟩; exact ⟨_, h⟩) | exact sure_body (by rintro _ _ ⟨h, _⟩; exact ⟨_, h⟩)) | refine sure_then ?_ | refine sure_block ?_ | refine sure_join ?_) (by kernel_rfl) ?_
 intro w48 hk47 he49 L hL50
 have hsz51 := Keep.size hk47
 replace hb26 := hb26.k0 (hk45.tr hk47)
 replace hK0 := hK0.tn hk47
 replace hR27 := hR27.keep hk47 nk
 replace hV28 := hV28.keep hk47 nk
 replace hL29 := hL29.keep hk47 nk
 have qhb26 := hb26
 have K52 : Keep none_ w48 w48 := Keep.refl _ _
 obtain rfl := List.mem_singleton.1 hL50
 refine Gn [3, 4, 5, 6, 7, 8, 9, 10, 11, 12, 13, 14, 15, 16, 17, 18, 19, 20, 21] [0, 1, 2, 3, 9, 10, 58] <| Mr 0 (pt l19) qhb26 <| Gn [7, 8, 9, 10, 11, 12, 13, 14, 15, 16, 17, 18, 19, 20, 21] [0, 1, 2, 3, 9, 10, 59, 62] <| Mr 1 (pt v18) qhb26 <| Gn [11, 12, 13, 14, 15, 16, 17, 18, 19, 20, 21] [0, 1, 2, 3, 9, 10, 59, 63, 66] <| Mr 2 (pt r16) qhb26 <| Gn [16, 17, 18, 19, 20, 21] [0, 1, 2, 3, 9, 10, 59, 63, 67, 70, 71] <| Jg (do_spec none_ (CA.mk 2 to n none 0 []) r16 gg17 actTs v18 l19 (j : Int) 0 H20 F21 G22 (acQ [have_]) _ (RepIn.none (fun q h => (inA_none h).elim)) hR27 hV28 hL29 dHF34 dHG35 dFG36 (fun q h => h.elim)) ?_
 rintro _ w55 ⟨A57, cap57, rfl, hA57, ow57, ⟨F58, F61, F64, ho59, ho62, ho65, hfr60, hfr63, hfr66, hdis67, hdis68, hdis69, dA70, dA71, dA72⟩, hk56⟩
 refine ⟨_, rfl, ?_⟩
 have hsz73 := Keep.size hk56
 replace hb26 := hb26.keep hk56 (fun hs => by rcases hs with hs | hs | hs; (have u9 : _ = gg17 := hs; have u0 := own38 _ (Rfr.atg hR27); have u1 := lt39 _ (Rfr.atg hR27); omega); (have u0 := own40 _ hs; have u1 := lt41 _ hs; omega); (have u0 := own42 _ hs; have u1 := lt43 _ hs; omega))
 replace hK0 := Keep.fresh hK0 hk56 (by intro i hi hs; first | exact hs | (rcases hs with hs | hs | hs; (have u9 : _ = gg17 := hs; have u0 := own38 _ (Rfr.atg hR27); have u1 := lt39 _ (Rfr.atg hR27); omega); (have u0 := own40 i hs; have u1 := lt41 i hs; omega); (have u0 := own42 i hs; have u1 := lt43 i hs; omega)))
 have own75 : ∀ q, F58 q → w9.heap.size ≤ q ∧ q ≠ b15 := fun q hq => by rcases hfr60 q hq with h | h; (have h1 := own38 q h; have h2 := lt39 q h; omega); omega
 have lt74 := Rfr.lt ho59
 have own77 : ∀ q, F61 q → w9.heap.size ≤ q ∧ q ≠ b15 := fun q hq => by rcases hfr63 q hq with h | h; (have h1 := own40 q h; have h2 := lt41 q h; omega); omega
 have lt76 := VotT.lt ho62
 have own79 : ∀ q, F64 q → w9.heap.size ≤ q ∧ q ≠ b15 := fun q hq => by rcases hfr66 q hq with h | h; (have h1 := own42 q h; have h2 := lt43 q h; omega); omega
 have lt78 := Led.lt ho65
 have ltA57 := SlT.lt hA57
 replace ho59 : Rfr F58 w55 r16 gg17 actTs ((doD actTs (j : Int) 0 (CA.mk 2 to n none 0 []) (acQ [have_])).2.2).rs := ho59
 replace ho62 : VotT F61 w55 v18 (((doD actTs (j : Int) 0 (CA.mk 2 to n none 0 []) (acQ [have_])).2.2).s) := ho62
 replace ho65 : Led F64 w55 l19 ((doD actTs (j : Int) 0 (CA.mk 2 to n none 0 []) (acQ [have_])).2.2).xs ((doD actTs (j : Int) 0 (CA.mk 2 to n none 0 []) (acQ [have_])).2.2).cs := ho65
 refine Gn [] [0, 1, 2, 3, 9, 10, 11, 12] <| GI_end <| X_then <| Vr <| OI_slit (E := 3) (zv := nt 0) (sz := 1) (by_ := 8) 49 3 #[(0, (Operand.const (Value.int IntKind.i64 5))), (1, (Operand.const (Value.int IntKind.i64 50))), (2, (Operand.const (Value.int IntKind.i64 5000)))] [nt 5, nt 50, nt 5000] [nt 5, nt 50, nt 5000] (some 75) (by kernel_rfl) (by kernel_rfl) (by kernel_rfl) (by omega) rfl (by omega) (by intro v hv; simp only [List.mem_cons, List.not_mem_nil, or_false] at hv; rcases hv with rfl | rfl | rfl <;> rfl) (by kernel_rfl) rfl ?_
 intro b80 w80 e80 hb80 k80 z80
 have hsz81 := Keep.size k80
 replace hb26 := hb26.k0 k80
 replace hA57 := hA57.keep0 k80
 replace hK0 := hK0.tn k80
 replace ho65 := ho65.keep k80 nk
 have hb80lt := hb80.lt
 refine On 2 [0, 1, 2, 9, 10, 11, 12, 75, 76] <| Oi (b := b80) (o := 0) (len := 3) (cap := 3) (j := j) (some 77) 49 (.tmp 75) (.tmp 76) 3 1 8 .i64 <| Lc (0 + j * 1) (nt (asM j)) hb80 (asM_at hj3) <| On 5 [0, 1, 2, 9, 10, 11, 12, 13] <| Oe <| V_seq <| V_block <| Vn [0, 1, 2, 9, 10, 11, 12, 79] <| Vi (n > asM j) (fun hc82 => ?_) (fun hc82 => ?_)
 ·
  have hE := as_over (j := j) (to := to) (n := n) hj3 (by omega) (by omega) (acQ [have_]) hc82
  refine Vr <| On 3 [1, 9, 10, 11, 85] <| Oq (u := .bool (decide ((doD actTs (j : Int) 0 (CA.mk 2 to n none 0 []) (acQ [have_])).2.1 = 10))) (v := .bool true) 85 (by rw [decide_eq_true (show (doD actTs (j : Int) 0 (CA.mk 2 to n none 0 []) (acQ [have_])).2.1 = 10 from by rw [hE] <;> rfl)]) <| On 8 [1, 9, 10, 90] <| Oq (u := .bool (decide (((((doD actTs (j : Int) 0 (CA.mk 2 to n none 0 []) (acQ [have_])).1).length : Nat) : Int) = 0))) (v := .bool true) 90 (by rw [decide_eq_true (show ((((doD actTs (j : Int) 0 (CA.mk 2 to n none 0 []) (acQ [have_])).1).length : Nat) : Int) = 0 from by rw [hE] <;> rfl)]) <| On 11 [1, 10, 90, 93] <| Lr 0 (pt l19) hb26 <| On 13 [10, 90, 94, 95] <| Kk (free_spec F64 l19 ((doD actTs (j : Int) 0 (CA.mk 2 to n none 0 []) (acQ [have_])).2.2).xs ((doD actTs (j : Int) 0 (CA.mk 2 to n none 0 []) (acQ [have_])).2.2).cs to _ ho65) fun w85 hk86 _ => ?_
  replace hK0 := hK0.tn hk86
  refine On 18 [100] <| Oq (u := .bool (decide ((acct ((doD actTs (j : Int) 0 (CA.mk 2 to n none 0 []) (acQ [have_])).2.2).xs to).free = (acct (acQ [have_]).xs to).free))) (v := .bool true) 100 (by rw [decide_eq_true (show (acct ((doD actTs (j : Int) 0 (CA.mk 2 to n none 0 []) (acQ [have_])).2.2).xs to).free = (acct (acQ [have_]).xs to).free from by rw [hE] <;> rfl)]) <| Kk (known_spec _) fun w89 hk90 _ => ?_
  replace hK0 := hK0.tn hk90
  exact Oen [8] <| V_ret <| X_ret_block <| X_ret_then <| Xr (.bool true) ⟨rfl, hK0⟩
 refine Vr ?_
 have hw92 : IntKind.i64.wrap (100 + have_) = 100 + have_ := (wrap64_id (by omega) (by omega)).trans (by omega)
 refine On 3 [0, 1, 2, 9, 10, 11, 12, 104, 106] <| Oq (u := nt (IntKind.i64.wrap (100 + have_))) (v := nt (100 + have_)) 106 (by rw [hw92]) <| Ose [(0, nt have_), (1, nt to), (2, nt n), (9, pt b15), (10, nt ((acct (acQ [have_]).xs to).free)), (11, .slice A57 (((doD actTs (j : Int) 0 (CA.mk 2 to n none 0 []) (acQ [have_])).1).length) cap57), (12, nt ((doD actTs (j : Int) 0 (CA.mk 2 to n none 0 []) (acQ [have_])).2.1)), (103, .bool (decide (n > 100 + have_)))] <| Vi (n > 100 + have_) (fun hc93 => ?_) (fun hc93 => ?_)
 ·
  have hE := as_funds (fs := [have_]) (j := j) (to := to) (n := n) hj3 (by omega) (by omega) hc82 (by omega)
  refine Vr <| On 3 [1, 9, 10, 11, 110] <| Oq (u := .bool (decide ((doD actTs (j : Int) 0 (CA.mk 2 to n none 0 []) (acQ [have_])).2.1 = 6))) (v := .bool true) 110 (by rw [decide_eq_true (show (doD actTs (j : Int) 0 (CA.mk 2 to n none 0 []) (acQ [have_])).2.1 = 6 from by rw [hE] <;> rfl)]) <| On 8 [1, 9, 10, 115] <| Oq (u := .bool (decide (((((doD actTs (j : Int) 0 (CA.mk 2 to n none 0 []) (acQ [have_])).1).length : Nat) : Int) = 0))) (v := .bool true) 115 (by rw [decide_eq_true (show ((((doD actTs (j : Int) 0 (CA.mk 2 to n none 0 []) (acQ [have_])).1).length : Nat) : Int) = 0 from by rw [hE] <;> rfl)]) <| On 11 [1, 10, 115, 118] <| Lr 0 (pt l19) hb26 <| On 13 [10, 115, 119, 120] <| Kk (free_spec F64 l19 ((doD actTs (j : Int) 0 (CA.mk 2 to n none 0 []) (acQ [have_])).2.2).xs ((doD actTs (j : Int) 0 (CA.mk 2 to n none 0 []) (acQ [have_])).2.2).cs to _ ho65) fun w96 hk97 _ => ?_
  replace hK0 := hK0.tn hk97
  refine On 18 [125] <| Oq (u := .bool (decide ((acct ((doD actTs (j : Int) 0 (CA.mk 2 to n none 0 []) (acQ [have_])).2.2).xs to).free = (acct (acQ [have_]).xs to).free))) (v := .bool true) 125 (by rw [decide_eq_true (show (acct ((doD actTs (j : Int) 0 (CA.mk 2 to n none 0 []) (acQ [have_])).2.2).xs to).free = (acct (acQ [have_]).xs to).free from by rw [hE] <;> rfl)]) <| Kk (known_spec _) fun w100 hk101 _ => ?_
  replace hK0 := hK0.tn hk101
  exact Oen [8] <| V_ret <| X_ret_block <| X_ret_then <| Xr (.bool true) ⟨rfl, hK0⟩
 have hE := as_go (fs := [have_]) (j := j) (to := to) (n := n) hj3 (by omega) (by omega) hc82 (by omega)
 have hfr := as_free (fs := [have_]) (to := to) (n := n) (by omega)
 replace hA57 := SlT.ofE (xs := (doD actTs (j : Int) 0 (CA.mk 2 to n none 0 []) (acQ [have_])).1) hA57 (show _ = [Evt.mk 3 to n] from by rw [hE])
 refine V_eq [(0, nt have_), (1, nt to), (2, nt n), (9, pt b15), (10, nt ((acct (acQ [have_]).xs to).free)), (11, .slice A57 1 cap57), (12, nt ((doD actTs (j : Int) 0 (CA.mk 2 to n none 0 []) (acQ [have_])).2.1)), (103, .bool (decide (n > 100 + have_)))] (by rw [hE]; rfl) <| Vn [0, 1, 2, 9, 10, 11, 12, 128] <| Vi (to = 0) (fun hc103 => ?_) (fun hc103 => ?_)
 ·
  rw [if_pos hc103] at hfr
  refine Vr <| On 3 [1, 9, 10, 133] <| Oq (u := .bool (decide ((doD actTs (j : Int) 0 (CA.mk 2 to n none 0 []) (acQ [have_])).2.1 = 0))) (v := .bool true) 133 (by rw [decide_eq_true (show (doD actTs (j : Int) 0 (CA.mk 2 to n none 0 []) (acQ [have_])).2.1 = 0 from by rw [hE] <;> rfl)]) <| On 6 [1, 10, 133, 136] <| Lr 0 (pt l19) hb26 <| On 8 [10, 133, 137, 138] <| Kk (free_spec F64 l19 ((doD actTs (j : Int) 0 (CA.mk 2 to n none 0 []) (acQ [have_])).2.2).xs ((doD actTs (j : Int) 0 (CA.mk 2 to n none 0 []) (acQ [have_])).2.2).cs to _ ho65) fun w105 hk106 _ => ?_
  replace hK0 := hK0.tn hk106
  refine On 13 [143] <| Oq (u := .bool (decide ((acct ((doD actTs (j : Int) 0 (CA.mk 2 to n none 0 []) (acQ [have_])).2.2).xs to).free = (acct (acQ [have_]).xs to).free))) (v := .bool true) 143 (by rw [decide_eq_true (show (acct ((doD actTs (j : Int) 0 (CA.mk 2 to n none 0 []) (acQ [have_])).2.2).xs to).free = (acct (acQ [have_]).xs to).free from by rw [hE]; first | exact hfr.1.trans (by omega) | exact hfr2.trans (by omega))]) <| Kk (known_spec _) fun w109 hk110 _ => ?_
  replace hK0 := hK0.tn hk110
  exact Oen [8] <| V_ret <| X_ret_block <| X_ret_then <| Xr (.bool true) ⟨rfl, hK0⟩
 rw [if_neg hc103] at hfr
 have hfr2 := hfr.2 hc103
 refine V_skip <| X_block <| X_then <| Vr <| On 3 [0, 1, 2, 9, 10, 11, 148] <| Oq (u := .bool (decide ((doD actTs (j : Int) 0 (CA.mk 2 to n none 0 []) (acQ [have_])).2.1 = 0))) (v := .bool true) 148 (by rw [decide_eq_true (show (doD actTs (j : Int) 0 (CA.mk 2 to n none 0 []) (acQ [have_])).2.1 = 0 from by rw [hE] <;> rfl)]) <| On 9 [0, 1, 2, 9, 10, 153, 154] ?_
 obtain ⟨b113, o113, L113, T113, rfl, hat113⟩ := SlT.open_ hA57 (by first | omega | (simp only [List.length_map]; omega) | (simp; done) | (simp; omega))
 have hb113lt := hat113.blk.lt
 have hob114 := ow57 b113 ⟨_, rfl, rfl⟩
 have hob115 := ltA57 b113 ⟨_, rfl, rfl⟩
 have hne116 : ∀ q, F58 q → q ≠ b113 := fun q hq hs => (fun q h1 h2 => dA70 q h2 h1) q hq ⟨_, rfl, hs⟩
 have own117 := fun q hq => And.intro (own75 q hq) (hne116 q hq)
 have hne118 : ∀ q, F61 q → q ≠ b113 := fun q hq hs => (fun q h1 h2 => dA71 q h2 h1) q hq ⟨_, rfl, hs⟩
 have own119 := fun q hq => And.intro (own77 q hq) (hne118 q hq)
 have hne120 : ∀ q, F64 q → q ≠ b113 := fun q hq hs => (fun q h1 h2 => dA72 q h2 h1) q hq ⟨_, rfl, hs⟩
 have own121 := fun q hq => And.intro (own79 q hq) (hne120 q hq)
 refine Oi (b := b113) (o := o113) (len := 1) (cap := cap57) (j := 0) (some 155) 27 (.tmp 154) (.const (Value.int IntKind.i64 0)) 52 3 24 .i64 <| La (o113 + 0 * 3) (Evt.cells (Evt.mk 3 to n)) 3 hat113.blk (At.elem' hat113 (es_at (rfl : ([Evt.mk 3 to n] : List Evt)[0]? = some (Evt.mk 3 to n)))) (At.len hat113 (es_at (rfl : ([Evt.mk 3 to n] : List Evt)[0]? = some (Evt.mk 3 to n)))) <| On 14 [0, 1, 2, 9, 10, 153, 156, 159] <| OI_pure (some 160) ((Op.binOp BinOp.eql 52 (Operand.tmp 156) (Operand.tmp 159) 52)) (by kernel_rfl) (pure_eql_same (xs := Evt.cells (Evt.mk 3 to n)) (by kernel_rfl) (by kernel_rfl) (by kernel_rfl) (by kernel_rfl)) <| On 20 [0, 1, 2, 9, 10, 162, 165] <| Lr 0 (pt l19) hb26 <| On 22 [0, 2, 9, 10, 162, 166, 167] <| Kk (free_spec F64 l19 ((doD actTs (j : Int) 0 (CA.mk 2 to n none 0 []) (acQ [have_])).2.2).xs ((doD actTs (j : Int) 0 (CA.mk 2 to n none 0 []) (acQ [have_])).2.2).cs to _ ho65) fun w122 hk123 _ => ?_
 replace hb26 := hb26.k0 hk123
 replace hK0 := hK0.tn hk123
 replace ho65 := ho65.keep hk123 nk
 have hw125 : IntKind.i64.wrap (((acct (acQ [have_]).xs to).free) + n) = ((acct (acQ [have_]).xs to).free) + n := (wrap64_id (by omega) (by omega)).trans (by omega)
 refine On 26 [0, 2, 9, 162, 168, 171] <| Oq (u := nt (IntKind.i64.wrap (((acct (acQ [have_]).xs to).free) + n))) (v := nt (((acct (acQ [have_]).xs to).free) + n)) 171 (by rw [hw125]) <| On 29 [0, 2, 9, 174] <| Oq (u := .bool (decide ((acct ((doD actTs (j : Int) 0 (CA.mk 2 to n none 0 []) (acQ [have_])).2.2).xs to).free = ((acct (acQ [have_]).xs to).free) + n))) (v := .bool true) 174 (by rw [decide_eq_true (show (acct ((doD actTs (j : Int) 0 (CA.mk 2 to n none 0 []) (acQ [have_])).2.2).xs to).free = ((acct (acQ [have_]).xs to).free) + n from by rw [hE]; first | exact hfr.1.trans (by omega) | exact hfr2.trans (by omega))]) <| On 32 [0, 2, 174, 177] <| Lr 0 (pt l19) hb26 <| Kk (free_spec F64 l19 ((doD actTs (j : Int) 0 (CA.mk 2 to n none 0 []) (acQ [have_])).2.2).xs ((doD actTs (j : Int) 0 (CA.mk 2 to n none 0 []) (acQ [have_])).2.2).cs 0 _ ho65) fun w127 hk128 _ => ?_
 replace hK0 := hK0.tn hk128
 have hw130 : IntKind.i64.wrap (100 + have_) = 100 + have_ := (wrap64_id (by omega) (by omega)).trans (by omega)
 refine On 36 [2, 174, 179, 181] <| Oq (u := nt (IntKind.i64.wrap (100 + have_))) (v := nt (100 + have_)) 181 (by rw [hw130]) ?_
 have hw131 : IntKind.i64.wrap ((100 + have_) - n) = (100 + have_) - n := (wrap64_id (by omega) (by omega)).trans (by omega)
 refine On 38 [174, 179, 183] <| Oq (u := nt (IntKind.i64.wrap ((100 + have_) - n))) (v := nt ((100 + have_) - n)) 183 (by rw [hw131]) <| On 41 [186] <| Oq (u := .bool (decide ((acct ((doD actTs (j : Int) 0 (CA.mk 2 to n none 0 []) (acQ [have_])).2.2).xs 0).free = (100 + have_) - n))) (v := .bool true) 186 (by rw [decide_eq_true (show (acct ((doD actTs (j : Int) 0 (CA.mk 2 to n none 0 []) (acQ [have_])).2.2).xs 0).free = (100 + have_) - n from by rw [hE]; first | exact hfr.1.trans (by omega) | exact hfr2.trans (by omega))]) <| Kk (known_spec _) fun w133 hk134 _ => ?_
 replace hK0 := hK0.tn hk134
 exact Oen [8] <| Rr (.bool true) ⟨rfl, hK0⟩
end Go.Al
